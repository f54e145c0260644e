/- Walks (printed by gen.py). -/
import Derived.Test.YtbdfljgnlendjaaG3
namespace Go.Proofs.Ytbdfljgnlendjaa
open Go Go.RowKit
set_option linter.unusedSimpArgs false
set_option linter.unusedVariables false

set_option maxRecDepth 100000 in
theorem ConfigChecks_ok (g : E.Cfg) (t : Int) (w0 : World) (hg : g.rd w0 (E.Old w0)) (hgf : g.q.fit) :
    Calls Try.prog 5 #[g.v, .int .i64 t] w0 (E.Post w0 (E.Old w0) fun v Hn => v = .bool true ∧ Hn = []) := by
  obtain ⟨hX1, hX2, hX3, hX4⟩ := id hg
  have hgl := E.Cfg.fit_len hgf
  refine E.calls_of (vs := [g.v, .int .i64 t]) (H := []) Try.func5 Try.ntmps5 rfl rfl (E.HA.start w0) ?_
  refine E.CW.seq ?_
  refine E.CW.region ?_
  refine E.OW.box rfl rfl rfl rfl rfl rfl (fun B1 => ?_)
  refine E.OW.pure rfl rfl rfl (E.PV.assign rfl rfl) ?_
  refine E.OW.nil ?_
  refine E.then_n ?_
  refine E.CW.seq ?_
  refine E.CW.region ?_
  refine E.OW.pure rfl rfl rfl (E.PV.loads (i := 0) is28 rfl rfl rfl rfl) ?_
  (refine E.OW.call nm21 rfl rfl rfl rfl rfl rfl _ (fun w hw => TwinC_ok _ w ?_ ?_) ?_; (focus (refine hw.rdC ?_; assumption)); (focus (assumption)); rintro _ _ ⟨gT, rfl, rfl, hgT⟩)
  refine E.OW.alloc (in28.zr) rfl rfl rfl rfl rfl (fun B2 => ?_)
  refine E.OW.store (i := 0) in28.size rfl rfl rfl rfl rfl rfl rfl rfl rfl ?_
  refine E.OW.nil ?_
  refine E.then_n ?_
  refine E.CW.seq ?_
  have hTf : gT.q.fit := by rw [hgT]; exact hgf
  have htl := Cf.tenantsR_len gT.q
  have htq : gT.q.ts.length = g.ts.length := by rw [hgT]; exact E.Cfg.ts_len g
  refine E.CW.region ?_
  refine E.OW.pure rfl rfl rfl (E.PV.loads (i := 0) is28 rfl rfl rfl rfl) ?_
  refine E.OW.pure rfl rfl rfl (E.PV.move rfl rfl) ?_
  (refine E.OW.call nm31 rfl rfl rfl rfl rfl rfl _ (fun w hw => Pn_ok _ _ w ?_ ?_) ?_; (focus (exact hw.rdcfg (i := 1) rfl)); (focus (assumption)); rintro _ _ ⟨rfl, rfl⟩)
  refine E.OW.pure rfl rfl rfl (E.PV.move rfl rfl) ?_
  refine E.OW.pure rfl rfl rfl (E.PV.extract rfl rfl rfl) ?_
  refine E.OW.pure rfl rfl rfl (E.PV.extract rfl rfl rfl) ?_
  refine E.OW.pure rfl rfl rfl (E.PV.assign rfl rfl) ?_
  refine E.OW.pure rfl rfl rfl (E.PV.assign rfl rfl) ?_
  refine E.OW.nil ?_
  refine E.then_n ?_
  refine E.CW.seq ?_
  refine E.CW.region ?_
  refine E.OW.pure rfl rfl rfl (E.PV.loads (i := 2) is28 rfl rfl rfl rfl) ?_
  refine E.OW.pure rfl rfl rfl (E.PV.move rfl rfl) ?_
  (refine E.OW.call nm32 rfl rfl rfl rfl rfl rfl _ (fun w hw => rPn_ok _ _ w ?_ ?_) ?_; (focus (refine hw.rdC ?_; assumption)); (focus (assumption)); rintro _ _ ⟨rfl, rfl⟩)
  refine E.OW.pure rfl rfl rfl (E.PV.move rfl rfl) ?_
  refine E.OW.pure rfl rfl rfl (E.PV.extract rfl rfl rfl) ?_
  refine E.OW.pure rfl rfl rfl (E.PV.extract rfl rfl rfl) ?_
  refine E.OW.pure rfl rfl rfl (E.PV.assign rfl rfl) ?_
  refine E.OW.pure rfl rfl rfl (E.PV.assign rfl rfl) ?_
  refine E.OW.nil ?_
  refine E.then_n ?_
  refine E.CW.seq ?_
  refine E.CW.seq ?_
  refine E.CW.draw mixed (by kernel_rfl) ?_
  refine E.QW.pure rfl rfl rfl (E.PV.move rfl rfl) ?_
  refine E.QW.pure rfl rfl rfl (E.PV.move rfl rfl) ?_
  refine E.QW.pure rfl rfl rfl (E.PV.bne Try.underlying4 rfl rfl rfl) ?_
  refine E.QW.pure rfl rfl rfl (E.PV.move rfl rfl) ?_
  all_goals (refine E.QW.put 29 (.bool false) rfl (congrArg Value.bool ?_) ?_; (focus ((rw [hgT]; simp; done))))
  all_goals (refine E.QW.pure rfl rfl rfl (E.PV.move rfl rfl) ?_)
  all_goals (refine E.QW.pure rfl rfl rfl (E.PV.move rfl rfl) ?_)
  all_goals (refine E.QW.pure rfl rfl rfl (E.PV.neq rfl rfl rfl) ?_)
  all_goals (refine E.QW.pure rfl rfl rfl (E.PV.pick_f rfl rfl rfl) ?_)
  all_goals (refine E.QW.pure rfl rfl rfl (E.PV.move rfl rfl) ?_)
  all_goals (refine E.QW.put 34 (.bool false) rfl (congrArg Value.bool ?_) ?_; (focus ((rw [hgT]; simp; done))))
  all_goals (refine E.QW.pure rfl rfl rfl (E.PV.loads (i := 0) is28 rfl rfl rfl rfl) ?_)
  all_goals ((refine E.QW.call nm33 rfl rfl rfl rfl rfl rfl _ (fun w hw => E.Post.val (Ck_ok _ w ?_ ?_)) ?_; (focus (exact hw.rdcfg (i := 1) rfl)); (focus (assumption))))
  all_goals (refine E.QW.pure rfl rfl rfl (E.PV.loads (i := 2) is28 rfl rfl rfl rfl) ?_)
  all_goals ((refine E.QW.call nm34 rfl rfl rfl rfl rfl rfl _ (fun w hw => E.Post.val (rCk_ok _ w ?_ ?_)) ?_; (focus (refine hw.rdC ?_; assumption)); (focus (assumption))))
  all_goals (refine E.QW.pure rfl rfl rfl (E.PV.neq rfl rfl rfl) ?_)
  all_goals (refine E.QW.pure rfl rfl rfl (E.PV.pick_f rfl rfl rfl) ?_)
  all_goals (
    refine E.QW.nil ?_
    refine E.then_n ?_
    refine E.CW.cond rfl (fun hc => ?_) (fun hc => ?_)
    · simp only [E.b0, E.b1, E.b2, E.b3, E.b4, E.b5, E.b6, E.b7, E.b8, E.b9, E.b10, E.b11, E.b12, E.b13, E.b14, E.b15, E.b16, E.b17, E.b18, E.b19, E.b20, reduceCtorEq] at hc
      all_goals (exfalso; (rw [hgT] at hc; exact hc rfl))
    · simp only [E.b0, E.b1, E.b2, E.b3, E.b4, E.b5, E.b6, E.b7, E.b8, E.b9, E.b10, E.b11, E.b12, E.b13, E.b14, E.b15, E.b16, E.b17, E.b18, E.b19, E.b20, reduceCtorEq] at hc
      all_goals (
        refine E.CW.skip ?_
        refine E.then_n ?_
        refine E.CW.seq ?_
        refine E.CW.region ?_
        refine E.OW.pure rfl rfl rfl (E.PV.loads (i := 0) is28 rfl rfl rfl rfl) ?_
        (refine E.OW.call nm35 rfl rfl rfl rfl rfl rfl _ (fun w hw => Tt_ok _ w ?_ ?_) ?_; (focus (exact hw.rdcfg (i := 1) rfl)); (focus (assumption)); rintro _ _ ⟨AY, cY, rfl, rfl⟩)
        refine E.OW.pure rfl rfl rfl (E.PV.move rfl rfl) ?_
        refine E.OW.pure rfl rfl rfl (E.PV.extract rfl rfl rfl) ?_
        refine E.OW.pure rfl rfl rfl (E.PV.extract rfl rfl rfl) ?_
        refine E.OW.pure rfl rfl rfl (E.PV.assign rfl rfl) ?_
        refine E.OW.pure rfl rfl rfl (E.PV.assign rfl rfl) ?_
        refine E.OW.nil ?_
        refine E.then_n ?_
        refine E.CW.seq ?_
        refine E.CW.region ?_
        refine E.OW.pure rfl rfl rfl (E.PV.loads (i := 3) is28 rfl rfl rfl rfl) ?_
        (refine E.OW.call nm36 rfl rfl rfl rfl rfl rfl _ (fun w hw => rTt_ok _ w ?_ ?_) ?_; (focus (refine hw.rdC ?_; assumption)); (focus (assumption)); rintro _ _ ⟨AZ, cZ, rfl, rfl⟩)
        refine E.OW.pure rfl rfl rfl (E.PV.move rfl rfl) ?_
        refine E.OW.pure rfl rfl rfl (E.PV.extract rfl rfl rfl) ?_
        refine E.OW.pure rfl rfl rfl (E.PV.extract rfl rfl rfl) ?_
        refine E.OW.pure rfl rfl rfl (E.PV.assign rfl rfl) ?_
        refine E.OW.pure rfl rfl rfl (E.PV.assign rfl rfl) ?_
        refine E.OW.nil ?_
        refine E.then_n ?_
        refine E.CW.seq ?_
        refine E.CW.region ?_
        refine E.OW.pure rfl rfl rfl (E.PV.move rfl rfl) ?_
        refine E.OW.pure rfl rfl rfl (E.PV.move rfl rfl) ?_
        (refine E.OW.call nm26 rfl rfl rfl rfl rfl rfl _ (fun w hw => rSameInts_ok _ _ _ _ _ _ w ?_ ?_ ?_) ?_; (focus (omega)); (focus (exact hw.rdrow (i := 1) rfl)); (focus (exact hw.rdrow (i := 0) rfl)); rintro _ _ ⟨rfl, rfl⟩)
        refine E.OW.pure rfl rfl rfl (E.PV.move rfl rfl) ?_
        all_goals (refine E.OW.put 54 (.bool true) rfl (congrArg Value.bool ?_) ?_; (focus ((rw [hgT]; simp; done))))
        all_goals (refine E.OW.pure rfl rfl rfl (E.PV.move rfl rfl) ?_)
        all_goals (refine E.OW.pure rfl rfl rfl (E.PV.move rfl rfl) ?_)
        all_goals (refine E.OW.pure rfl rfl rfl (E.PV.eql rfl rfl rfl) ?_)
        all_goals (refine E.OW.pure rfl rfl rfl (E.PV.pick_t rfl rfl rfl) ?_)
        all_goals (refine E.OW.pure rfl rfl rfl (E.PV.move rfl rfl) ?_)
        all_goals (refine E.OW.put 59 (.bool true) rfl (congrArg Value.bool ?_) ?_; (focus ((rw [hgT]; simp; done))))
        all_goals (refine E.OW.pure rfl rfl rfl (E.PV.loads (i := 2) is28 rfl rfl rfl rfl) ?_)
        all_goals (refine E.OW.pure rfl rfl rfl (E.PV.loads (i := 4) is28 rfl rfl rfl rfl) ?_)
        all_goals ((refine E.OW.call nm20 rfl rfl rfl rfl rfl rfl _ (fun w hw => rSameC_ok _ _ w ?_ ?_ ?_ ?_) ?_; (focus (exact hw.rdcfg (i := 3) rfl)); (focus (refine hw.rdC ?_; assumption)); (focus (assumption)); (focus (assumption)); rintro _ _ ⟨rfl, rfl⟩))
        all_goals (refine E.OW.pure rfl rfl rfl (E.PV.pick_t rfl rfl rfl) ?_)
        all_goals (refine E.OW.pure rfl rfl rfl (E.PV.assign rfl rfl) ?_)
        all_goals (
          refine E.OW.nil ?_
          refine E.then_n ?_
          refine E.CW.ret ?_
          refine E.KR.one [] Try.results5 rfl rfl ?_
          exact ⟨by first | rfl | (simp [hgT]; done), rfl⟩)))
end Go.Proofs.Ytbdfljgnlendjaa
