/- Walks (printed by gen.py). -/
import Derived.Test.YtbdfljgnlendjaaG1
namespace Go.Proofs.Ytbdfljgnlendjaa
open Go Go.RowKit
set_option linter.unusedSimpArgs false
set_option linter.unusedVariables false

set_option maxRecDepth 100000 in
theorem ConfigCompares_ok (g h : E.Cfg) (w0 : World) (hg : g.rd w0 (E.Old w0)) (hh : h.rd w0 (E.Old w0)) (hgf : g.q.fit) (hhf : h.q.fit) :
    Calls Try.prog 3 #[g.v, h.v] w0 (E.Post w0 (E.Old w0) fun v Hn => v = .bool true ∧ Hn = []) := by
  have hgs := hgf
  refine E.calls_of (vs := [g.v, h.v]) (H := []) Try.func3 Try.ntmps3 rfl rfl (E.HA.start w0) ?_
  refine E.CW.seq ?_
  refine E.CW.region ?_
  refine E.OW.box rfl rfl rfl rfl rfl rfl (fun B1 => ?_)
  refine E.OW.box rfl rfl rfl rfl rfl rfl (fun B2 => ?_)
  refine E.OW.pure rfl rfl rfl (E.PV.assign rfl rfl) ?_
  refine E.OW.nil ?_
  refine E.then_n ?_
  refine E.CW.seq ?_
  refine E.CW.drawx mixed [0, 0] rfl ?_
  all_goals (refine E.AW.first 0 rfl (by kernel_rfl) (by kernel_rfl) (by kernel_rfl) rfl rfl rfl (E.PV.loads (i := 1) is28 rfl rfl rfl rfl) ?_)
  all_goals (refine E.AW.first 1 rfl (by kernel_rfl) (by kernel_rfl) (by kernel_rfl) rfl rfl rfl (E.PV.loads (i := 0) is28 rfl rfl rfl rfl) ?_)
  all_goals (refine E.AW.first 3 rfl (by kernel_rfl) (by kernel_rfl) (by kernel_rfl) rfl rfl rfl (E.PV.loads (i := 1) is28 rfl rfl rfl rfl) ?_)
  all_goals (refine E.AW.first 4 rfl (by kernel_rfl) (by kernel_rfl) (by kernel_rfl) rfl rfl rfl (E.PV.loads (i := 0) is28 rfl rfl rfl rfl) ?_)
  all_goals (refine E.AW.one 2 (by kernel_rfl) rfl ?_)
  all_goals ((refine E.OW.call nm19 rfl rfl rfl rfl rfl rfl _ (fun w hw => Same_ok _ _ w ?_ ?_ ?_ ?_) ?_; (focus (refine hw.rdC ?_; assumption)); (focus (refine hw.rdC ?_; assumption)); (focus (assumption)); (focus (assumption)); rintro _ _ ⟨rfl, rfl⟩))
  all_goals (first | (refine E.AW.nil [0, 0] rfl ?_) | (refine E.AW.nil [1, 1] rfl ?_) | (refine E.AW.nil [2, 2] rfl ?_) | (refine E.AW.nil [3, 3] rfl ?_) | (refine E.AW.nil [4, 4] rfl ?_) | (refine E.AW.nil [5, 5] rfl ?_) | (refine E.AW.nil [6, 6] rfl ?_) | (refine E.AW.nil [0, 0] rfl ?_) | (refine E.AW.nil [0, 0] rfl ?_))
  all_goals (refine E.AW.one 5 (by kernel_rfl) rfl ?_)
  all_goals ((refine E.OW.call nm20 rfl rfl rfl rfl rfl rfl _ (fun w hw => rSameC_ok _ _ w ?_ ?_ ?_ ?_) ?_; (focus (refine hw.rdC ?_; assumption)); (focus (refine hw.rdC ?_; assumption)); (focus (assumption)); (focus (assumption)); rintro _ _ ⟨rfl, rfl⟩))
  all_goals (first | (refine E.AW.nil [0, 0] rfl ?_) | (refine E.AW.nil [1, 1] rfl ?_) | (refine E.AW.nil [2, 2] rfl ?_) | (refine E.AW.nil [3, 3] rfl ?_) | (refine E.AW.nil [4, 4] rfl ?_) | (refine E.AW.nil [5, 5] rfl ?_) | (refine E.AW.nil [6, 6] rfl ?_) | (refine E.AW.nil [0, 0] rfl ?_) | (refine E.AW.nil [0, 0] rfl ?_))
  all_goals (refine E.AW.first 6 rfl (by kernel_rfl) (by kernel_rfl) (by kernel_rfl) rfl rfl rfl (E.PV.beq Try.underlying4 rfl rfl rfl) ?_)
  all_goals (refine E.AW.first 7 rfl (by kernel_rfl) (by kernel_rfl) (by kernel_rfl) rfl rfl rfl (E.PV.move rfl rfl) ?_)
  all_goals (refine E.AW.put 12 (.bool true) rfl (congrArg Value.bool ?_) ?_; (focus ((simp only [E.b0, E.b1, E.b2, E.b3, E.b4, E.b5, E.b6, E.b7, E.b8, E.b9, E.b10, E.b11, E.b12, E.b13, E.b14, E.b15, E.b16, E.b17, E.b18, E.b19, E.b20]; done))))
  all_goals (refine E.AW.first 8 rfl (by kernel_rfl) (by kernel_rfl) (by kernel_rfl) rfl rfl rfl (E.PV.loads (i := 1) is28 rfl rfl rfl rfl) ?_)
  all_goals (refine E.AW.first 9 rfl (by kernel_rfl) (by kernel_rfl) (by kernel_rfl) rfl rfl rfl (E.PV.loads (i := 1) is28 rfl rfl rfl rfl) ?_)
  all_goals (refine E.AW.one 10 (by kernel_rfl) rfl ?_)
  all_goals ((refine E.OW.call nm21 rfl rfl rfl rfl rfl rfl _ (fun w hw => TwinC_ok _ w ?_ ?_) ?_; (focus (refine hw.rdC ?_; assumption)); (focus (assumption)); rintro _ _ ⟨gT, rfl, rfl, hgT⟩))
  all_goals (first | (refine E.AW.nil [0, 0] rfl ?_) | (refine E.AW.nil [1, 1] rfl ?_) | (refine E.AW.nil [2, 2] rfl ?_) | (refine E.AW.nil [3, 3] rfl ?_) | (refine E.AW.nil [4, 4] rfl ?_) | (refine E.AW.nil [5, 5] rfl ?_) | (refine E.AW.nil [6, 6] rfl ?_) | (refine E.AW.nil [0, 0] rfl ?_) | (refine E.AW.nil [0, 0] rfl ?_))
  all_goals (refine E.AW.one 11 (by kernel_rfl) rfl ?_)
  all_goals ((refine E.OW.call nm19 rfl rfl rfl rfl rfl rfl _ (fun w hw => Same_ok _ _ w ?_ ?_ ?_ (hgT ▸ hgf)) ?_; (focus (refine hw.rdC ?_; assumption)); (focus (exact hw.rdcfg (i := 0) rfl)); (focus (assumption)); rintro _ _ ⟨rfl, rfl⟩))
  all_goals (first | (refine E.AW.nil [0, 0] rfl ?_) | (refine E.AW.nil [1, 1] rfl ?_) | (refine E.AW.nil [2, 2] rfl ?_) | (refine E.AW.nil [3, 3] rfl ?_) | (refine E.AW.nil [4, 4] rfl ?_) | (refine E.AW.nil [5, 5] rfl ?_) | (refine E.AW.nil [6, 6] rfl ?_) | (refine E.AW.nil [0, 0] rfl ?_) | (refine E.AW.nil [0, 0] rfl ?_))
  all_goals (refine E.AW.first 12 rfl (by kernel_rfl) (by kernel_rfl) (by kernel_rfl) rfl rfl rfl (E.PV.pick_t rfl rfl rfl) ?_)
  all_goals (refine E.AW.first 13 rfl (by kernel_rfl) (by kernel_rfl) (by kernel_rfl) rfl rfl rfl (E.PV.move rfl rfl) ?_)
  all_goals (refine E.AW.put 18 (.bool true) rfl (congrArg Value.bool ?_) ?_; (focus ((rw [hgT]; simp; done))))
  all_goals (refine E.AW.first 14 rfl (by kernel_rfl) (by kernel_rfl) (by kernel_rfl) rfl rfl rfl (E.PV.loads (i := 0) is28 rfl rfl rfl rfl) ?_)
  all_goals (refine E.AW.first 15 rfl (by kernel_rfl) (by kernel_rfl) (by kernel_rfl) rfl rfl rfl (E.PV.loads (i := 1) is28 rfl rfl rfl rfl) ?_)
  all_goals (refine E.AW.first 17 rfl (by kernel_rfl) (by kernel_rfl) (by kernel_rfl) rfl rfl rfl (E.PV.loads (i := 1) is28 rfl rfl rfl rfl) ?_)
  all_goals (refine E.AW.first 18 rfl (by kernel_rfl) (by kernel_rfl) (by kernel_rfl) rfl rfl rfl (E.PV.loads (i := 0) is28 rfl rfl rfl rfl) ?_)
  all_goals (refine E.AW.one 16 (by kernel_rfl) rfl ?_)
  all_goals ((refine E.OW.call nm19 rfl rfl rfl rfl rfl rfl _ (fun w hw => Same_ok _ _ w ?_ ?_ ?_ ?_) ?_; (focus (refine hw.rdC ?_; assumption)); (focus (refine hw.rdC ?_; assumption)); (focus (assumption)); (focus (assumption)); rintro _ _ ⟨rfl, rfl⟩))
  all_goals (first | (refine E.AW.nil [0, 0] rfl ?_) | (refine E.AW.nil [1, 1] rfl ?_) | (refine E.AW.nil [2, 2] rfl ?_) | (refine E.AW.nil [3, 3] rfl ?_) | (refine E.AW.nil [4, 4] rfl ?_) | (refine E.AW.nil [5, 5] rfl ?_) | (refine E.AW.nil [6, 6] rfl ?_) | (refine E.AW.nil [0, 0] rfl ?_) | (refine E.AW.nil [0, 0] rfl ?_))
  all_goals (refine E.AW.one 19 (by kernel_rfl) rfl ?_)
  all_goals ((refine E.OW.call nm19 rfl rfl rfl rfl rfl rfl _ (fun w hw => Same_ok _ _ w ?_ ?_ ?_ ?_) ?_; (focus (refine hw.rdC ?_; assumption)); (focus (refine hw.rdC ?_; assumption)); (focus (assumption)); (focus (assumption)); rintro _ _ ⟨rfl, rfl⟩))
  all_goals (first | (refine E.AW.nil [0, 0] rfl ?_) | (refine E.AW.nil [1, 1] rfl ?_) | (refine E.AW.nil [2, 2] rfl ?_) | (refine E.AW.nil [3, 3] rfl ?_) | (refine E.AW.nil [4, 4] rfl ?_) | (refine E.AW.nil [5, 5] rfl ?_) | (refine E.AW.nil [6, 6] rfl ?_) | (refine E.AW.nil [0, 0] rfl ?_) | (refine E.AW.nil [0, 0] rfl ?_))
  all_goals (refine E.AW.first 20 rfl (by kernel_rfl) (by kernel_rfl) (by kernel_rfl) rfl rfl rfl (E.PV.beq Try.underlying4 rfl rfl rfl) ?_)
  all_goals (refine E.AW.first 21 rfl (by kernel_rfl) (by kernel_rfl) (by kernel_rfl) rfl rfl rfl (E.PV.pick_t rfl rfl rfl) ?_)
  all_goals (refine E.AW.first 22 rfl (by kernel_rfl) (by kernel_rfl) (by kernel_rfl) rfl rfl rfl (E.PV.assign rfl rfl) ?_)
  all_goals (refine E.AW.done (by kernel_rfl) ?_)
  all_goals (
    skip
    refine E.then_n ?_
    refine E.CW.ret ?_
    refine E.KR.one [] Try.results3 rfl rfl ?_
    exact ⟨by first | rfl | (simp [eq_comm]; done), rfl⟩)
end Go.Proofs.Ytbdfljgnlendjaa
