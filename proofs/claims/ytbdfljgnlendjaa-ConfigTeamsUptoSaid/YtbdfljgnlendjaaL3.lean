/- Walks (printed by gen.py). -/
import Derived.Test.YtbdfljgnlendjaaG2
namespace Go.Proofs.Ytbdfljgnlendjaa
open Go Go.RowKit
set_option linter.unusedSimpArgs false
set_option linter.unusedVariables false

set_option maxRecDepth 100000 in
theorem ConfigTeams_ok (a b : Int) (A : Option Addr) (c : Nat) (l : List UInt8) (t : Int) (m : E.Tm) (w0 : World) (hl : l.length ≤ 140737488355328) (hL : E.Rd w0 (E.Old w0) A (E.u8s l)) (hm : m.rd w0 (E.Old w0)) (hf : m.q.fit) (hsz : (Cf.spots m.q).length ≤ 1048576) :
    Calls Try.prog 4 #[.agg #[.int .i64 a, .int .i64 b, .slice A l.length c], .int .i64 t, m.v] w0 (E.Post w0 (E.Old w0) fun v Hn => v = .bool true ∧ Hn = []) := by
  refine E.calls_of (vs := [.agg #[.int .i64 a, .int .i64 b, .slice A l.length c], .int .i64 t, m.v]) (H := []) Try.func4 Try.ntmps4 rfl rfl (E.HA.start w0) ?_
  refine E.CW.seq ?_
  refine E.CW.region ?_
  refine E.OW.box rfl rfl rfl rfl rfl rfl (fun B1 => ?_)
  refine E.OW.box rfl rfl rfl rfl rfl rfl (fun B2 => ?_)
  refine E.OW.pure rfl rfl rfl (E.PV.assign rfl rfl) ?_
  refine E.OW.nil ?_
  refine E.then_n ?_
  refine E.CW.seq ?_
  refine E.CW.region ?_
  refine E.OW.pure rfl rfl rfl (E.PV.loads (i := 0) is33 rfl rfl rfl rfl) ?_
  (refine E.OW.call nm22 rfl rfl rfl rfl rfl rfl _ (fun w hw => TwinTeam_ok _ w ?_ ?_) ?_; (focus (refine hw.rdm ?_; assumption)); (focus (assumption)); rintro _ _ ⟨mT, rfl, rfl, hmT⟩)
  refine E.OW.alloc (in33.zr) rfl rfl rfl rfl rfl (fun B3 => ?_)
  refine E.OW.store (i := 0) in33.size rfl rfl rfl rfl rfl rfl rfl rfl rfl ?_
  refine E.OW.nil ?_
  refine E.then_n ?_
  refine E.CW.seq ?_
  have hTf : mT.q.fit := by rw [hmT]; exact hf
  have hsT : (Cf.spots mT.q).length ≤ 1048576 := by rw [hmT]; exact hsz
  refine E.CW.region ?_
  refine E.OW.pure rfl rfl rfl (E.PV.loads (i := 0) is33 rfl rfl rfl rfl) ?_
  (refine E.OW.call nm23 rfl rfl rfl rfl rfl rfl _ (fun w hw => Sp_ok _ w ?_ ?_ ?_) ?_; (focus (exact hw.rdtm (i := 1) rfl)); (focus (assumption)); (focus (omega)); rintro _ _ ⟨AS, cS, rfl, rfl⟩)
  refine E.OW.pure rfl rfl rfl (E.PV.assign rfl rfl) ?_
  refine E.OW.nil ?_
  refine E.then_n ?_
  refine E.CW.seq ?_
  refine E.CW.seq ?_
  refine E.CW.drawx mixed [1, 2, 2] rfl ?_
  all_goals (refine E.AW.first 0 rfl (by kernel_rfl) (by kernel_rfl) (by kernel_rfl) rfl rfl rfl (E.PV.loads (i := 0) is33 rfl rfl rfl rfl) ?_)
  all_goals (refine E.AW.first 2 rfl (by kernel_rfl) (by kernel_rfl) (by kernel_rfl) rfl rfl rfl (E.PV.loads (i := 1) is33 rfl rfl rfl rfl) ?_)
  all_goals (refine E.AW.one 1 (by kernel_rfl) rfl ?_)
  all_goals ((refine E.OW.call nm24 rfl rfl rfl rfl rfl rfl _ (fun w hw => Ab_ok _ w ?_ ?_) ?_; (focus (exact hw.rdtm (i := 2) rfl)); (focus (assumption)); rintro _ _ ⟨rfl, rfl⟩))
  all_goals (first | (refine E.AW.nil [1, 2, 2] rfl ?_) | (refine E.AW.nil [2, 3, 3] rfl ?_) | (refine E.AW.nil [3, 4, 4] rfl ?_) | (refine E.AW.nil [4, 5, 5] rfl ?_) | (refine E.AW.nil [5, 6, 6] rfl ?_) | (refine E.AW.nil [6, 7, 7] rfl ?_) | (refine E.AW.nil [7, 8, 8] rfl ?_) | (refine E.AW.nil [0, 1, 1] rfl ?_) | (refine E.AW.nil [0, 0, 0] rfl ?_))
  all_goals (refine E.AW.one 3 (by kernel_rfl) rfl ?_)
  all_goals ((refine E.OW.call nm25 rfl rfl rfl rfl rfl rfl _ (fun w hw => rAb_ok _ w ?_ ?_) ?_; (focus (refine hw.rdm ?_; assumption)); (focus (assumption)); rintro _ _ ⟨rfl, rfl⟩))
  all_goals (first | (refine E.AW.nil [1, 2, 2] rfl ?_) | (refine E.AW.nil [2, 3, 3] rfl ?_) | (refine E.AW.nil [3, 4, 4] rfl ?_) | (refine E.AW.nil [4, 5, 5] rfl ?_) | (refine E.AW.nil [5, 6, 6] rfl ?_) | (refine E.AW.nil [6, 7, 7] rfl ?_) | (refine E.AW.nil [7, 8, 8] rfl ?_) | (refine E.AW.nil [0, 1, 1] rfl ?_) | (refine E.AW.nil [0, 0, 0] rfl ?_))
  all_goals (refine E.AW.first 4 rfl (by kernel_rfl) (by kernel_rfl) (by kernel_rfl) rfl rfl rfl (E.PV.bne Try.underlying4 rfl rfl rfl) ?_)
  all_goals (refine E.AW.first 5 rfl (by kernel_rfl) (by kernel_rfl) (by kernel_rfl) rfl rfl rfl (E.PV.move rfl rfl) ?_)
  all_goals (refine E.AW.put 19 (.bool false) rfl (congrArg Value.bool ?_) ?_; (focus ((rw [hmT]; simp; done))))
  all_goals (refine E.AW.first 6 rfl (by kernel_rfl) (by kernel_rfl) (by kernel_rfl) rfl rfl rfl (E.PV.move rfl rfl) ?_)
  all_goals (refine E.AW.first 7 rfl (by kernel_rfl) (by kernel_rfl) (by kernel_rfl) rfl rfl rfl (E.PV.loads (i := 1) is33 rfl rfl rfl rfl) ?_)
  all_goals (refine E.AW.one 8 (by kernel_rfl) rfl ?_)
  all_goals ((refine E.OW.call nm27 rfl rfl rfl rfl rfl rfl _ (fun w hw => rSp_ok _ w ?_ ?_ ?_) ?_; (focus (refine hw.rdm ?_; assumption)); (focus (assumption)); (focus (omega)); rintro _ _ ⟨AR, cR, rfl, rfl⟩))
  all_goals (first | (refine E.AW.nil [1, 2, 2] rfl ?_) | (refine E.AW.nil [2, 3, 3] rfl ?_) | (refine E.AW.nil [3, 4, 4] rfl ?_) | (refine E.AW.nil [4, 5, 5] rfl ?_) | (refine E.AW.nil [5, 6, 6] rfl ?_) | (refine E.AW.nil [6, 7, 7] rfl ?_) | (refine E.AW.nil [7, 8, 8] rfl ?_) | (refine E.AW.nil [0, 1, 1] rfl ?_) | (refine E.AW.nil [0, 0, 0] rfl ?_))
  all_goals (refine E.AW.one 9 (by kernel_rfl) rfl ?_)
  all_goals ((refine E.OW.call nm26 rfl rfl rfl rfl rfl rfl _ (fun w hw => rSameInts_ok _ _ _ _ _ _ w ?_ ?_ ?_) ?_; (focus (omega)); (focus (exact hw.rdrow (i := 1) rfl)); (focus (exact hw.rdrow (i := 0) rfl)); rintro _ _ ⟨rfl, rfl⟩))
  all_goals (first | (refine E.AW.nil [1, 2, 2] rfl ?_) | (refine E.AW.nil [2, 3, 3] rfl ?_) | (refine E.AW.nil [3, 4, 4] rfl ?_) | (refine E.AW.nil [4, 5, 5] rfl ?_) | (refine E.AW.nil [5, 6, 6] rfl ?_) | (refine E.AW.nil [6, 7, 7] rfl ?_) | (refine E.AW.nil [7, 8, 8] rfl ?_) | (refine E.AW.nil [0, 1, 1] rfl ?_) | (refine E.AW.nil [0, 0, 0] rfl ?_))
  all_goals (refine E.AW.first 10 rfl (by kernel_rfl) (by kernel_rfl) (by kernel_rfl) rfl rfl rfl (E.PV.not rfl rfl) ?_)
  all_goals (refine E.AW.first 11 rfl (by kernel_rfl) (by kernel_rfl) (by kernel_rfl) rfl rfl rfl (E.PV.pick_f rfl rfl rfl) ?_)
  all_goals (refine E.AW.first 12 rfl (by kernel_rfl) (by kernel_rfl) (by kernel_rfl) rfl rfl rfl (E.PV.move rfl rfl) ?_)
  all_goals (refine E.AW.put 26 (.bool false) rfl (congrArg Value.bool ?_) ?_; (focus ((rw [hmT]; simp; done))))
  all_goals (refine E.AW.first 13 rfl (by kernel_rfl) (by kernel_rfl) (by kernel_rfl) rfl rfl rfl (E.PV.loads (i := 2) is24 rfl rfl rfl rfl) ?_)
  all_goals (refine E.AW.first 14 rfl (by kernel_rfl) (by kernel_rfl) (by kernel_rfl) rfl rfl rfl (E.PV.move rfl rfl) ?_)
  all_goals (refine E.AW.first 15 rfl (by kernel_rfl) (by kernel_rfl) (by kernel_rfl) rfl rfl rfl (E.PV.loads (i := 0) is33 rfl rfl rfl rfl) ?_)
  all_goals (refine E.AW.first 17 rfl (by kernel_rfl) (by kernel_rfl) (by kernel_rfl) rfl rfl rfl (E.PV.loads (i := 2) is24 rfl rfl rfl rfl) ?_)
  all_goals (refine E.AW.first 18 rfl (by kernel_rfl) (by kernel_rfl) (by kernel_rfl) rfl rfl rfl (E.PV.move rfl rfl) ?_)
  all_goals (refine E.AW.first 19 rfl (by kernel_rfl) (by kernel_rfl) (by kernel_rfl) rfl rfl rfl (E.PV.loads (i := 1) is33 rfl rfl rfl rfl) ?_)
  all_goals (refine E.AW.one 16 (by kernel_rfl) rfl ?_)
  all_goals ((refine E.OW.call nm28 rfl rfl rfl rfl rfl rfl _ (fun w hw => CT_ok _ _ _ _ _ _ _ w ?_ ?_ ?_ ?_) ?_; (focus (assumption)); (focus (refine hw.rd ?_; assumption)); (focus (exact hw.rdtm (i := 3) rfl)); (focus (assumption)); rintro _ _ ⟨rfl, rfl⟩))
  all_goals (first | (refine E.AW.nil [1, 2, 2] rfl ?_) | (refine E.AW.nil [2, 3, 3] rfl ?_) | (refine E.AW.nil [3, 4, 4] rfl ?_) | (refine E.AW.nil [4, 5, 5] rfl ?_) | (refine E.AW.nil [5, 6, 6] rfl ?_) | (refine E.AW.nil [6, 7, 7] rfl ?_) | (refine E.AW.nil [7, 8, 8] rfl ?_) | (refine E.AW.nil [0, 1, 1] rfl ?_) | (refine E.AW.nil [0, 0, 0] rfl ?_))
  all_goals (refine E.AW.one 20 (by kernel_rfl) rfl ?_)
  all_goals ((refine E.OW.call nm29 rfl rfl rfl rfl rfl rfl _ (fun w hw => rCT_ok _ _ _ _ _ _ _ w ?_ ?_ ?_ ?_) ?_; (focus (assumption)); (focus (refine hw.rd ?_; assumption)); (focus (refine hw.rdm ?_; assumption)); (focus (assumption)); rintro _ _ ⟨rfl, rfl⟩))
  all_goals (first | (refine E.AW.nil [1, 2, 2] rfl ?_) | (refine E.AW.nil [2, 3, 3] rfl ?_) | (refine E.AW.nil [3, 4, 4] rfl ?_) | (refine E.AW.nil [4, 5, 5] rfl ?_) | (refine E.AW.nil [5, 6, 6] rfl ?_) | (refine E.AW.nil [6, 7, 7] rfl ?_) | (refine E.AW.nil [7, 8, 8] rfl ?_) | (refine E.AW.nil [0, 1, 1] rfl ?_) | (refine E.AW.nil [0, 0, 0] rfl ?_))
  all_goals (refine E.AW.first 21 rfl (by kernel_rfl) (by kernel_rfl) (by kernel_rfl) rfl rfl rfl (E.PV.neq rfl rfl rfl) ?_)
  all_goals (refine E.AW.first 22 rfl (by kernel_rfl) (by kernel_rfl) (by kernel_rfl) rfl rfl rfl (E.PV.pick_f rfl rfl rfl) ?_)
  all_goals (refine E.AW.done (by kernel_rfl) ?_)
  all_goals (
    skip
    refine E.then_n ?_
    refine E.CW.cond rfl (fun hc => ?_) (fun hc => ?_)
    · simp only [E.b0, E.b1, E.b2, E.b3, E.b4, E.b5, E.b6, E.b7, E.b8, E.b9, E.b10, E.b11, E.b12, E.b13, E.b14, E.b15, E.b16, E.b17, E.b18, E.b19, E.b20, reduceCtorEq] at hc
      all_goals (exfalso; (rw [hmT] at hc; exact hc rfl))
    · simp only [E.b0, E.b1, E.b2, E.b3, E.b4, E.b5, E.b6, E.b7, E.b8, E.b9, E.b10, E.b11, E.b12, E.b13, E.b14, E.b15, E.b16, E.b17, E.b18, E.b19, E.b20, reduceCtorEq] at hc
      all_goals (
        refine E.CW.skip ?_
        refine E.then_n ?_
        refine E.CW.seq ?_
        refine E.CW.seq ?_
        refine E.CW.region ?_
        refine E.OW.pure rfl rfl rfl (E.PV.assign rfl rfl) ?_
        refine E.OW.nil ?_
        refine E.then_n ?_
        refine E.CW.block ?_
        refine E.CW.sels [1, 1, 1, 1, 1] rfl ?_
        refine E.CW.loopk [5, 7, 8] 1 rfl rfl (fun mm mods Hm => ∃ k : Nat, ∃ ys : List Int, mm = (Cf.spots mT.q).length - k ∧ mods = [(9, .int .i64 k)] ∧ Hm = [E.HP.row 3 1 AS (Cf.spots mT.q).length cS (E.ints ys)] ∧ (k ≤ (Cf.spots mT.q).length ∧ ys.length = (Cf.spots mT.q).length)) ((Cf.spots mT.q).length) ?_ ?_
        · exact ⟨[(9, _)], (by repeat (first | exact E.cov_nil | refine ⟨rfl, ?_⟩)), 0, _, rfl, rfl, rfl, by omega, rfl⟩
        · rintro _ _ _ ⟨k, ys, rfl, rfl, rfl, hk, hyl⟩
          refine E.CW.seq ?_
          refine E.CW.seq ?_
          refine E.CW.region ?_
          refine E.OW.pure rfl rfl rfl (E.PV.move rfl rfl) ?_
          refine E.OW.pure rfl rfl rfl (E.PV.move rfl rfl) ?_
          refine E.OW.pure rfl rfl rfl (E.PV.len Try.underlying31 rfl rfl) ?_
          refine E.OW.pure rfl rfl rfl (E.PV.lss rfl rfl rfl) ?_
          refine E.OW.nil ?_
          refine E.then_n ?_
          refine E.CW.cond rfl (fun hc => ?_) (fun hc => ?_)
          · simp only [E.b0, E.b1, E.b2, E.b3, E.b4, E.b5, E.b6, E.b7, E.b8, E.b9, E.b10, E.b11, E.b12, E.b13, E.b14, E.b15, E.b16, E.b17, E.b18, E.b19, E.b20, reduceCtorEq] at hc
            all_goals (
              refine E.CW.skip ?_
              refine E.then_n ?_
              refine E.CW.seq ?_
              refine E.CW.block ?_
              refine E.CW.region ?_
              refine E.OW.pure rfl rfl rfl (E.PV.move rfl rfl) ?_
              refine E.OW.pure rfl rfl rfl (E.PV.move rfl rfl) ?_
              refine E.OW.pure rfl rfl rfl (E.PV.indexAddr1 (E.rdr (i := 0) rfl) Try.underlying31 in3 rfl rfl rfl rfl ?_ ?_) ?_; (focus (first | (simp; done) | (simp; omega))); (focus (omega))
              refine E.OW.pure rfl rfl rfl (E.PV.load_int (E.rdr (i := 0) rfl) na3 rfl rfl ?_) ?_; (focus (omega))
              refine E.OW.pure rfl rfl rfl (E.PV.xor_i64 rfl rfl rfl) ?_
              refine E.OW.pure rfl rfl rfl (E.PV.indexAddr1 (E.rdr (i := 0) rfl) Try.underlying31 in3 rfl rfl rfl rfl ?_ ?_) ?_; (focus (first | (simp; done) | (simp; omega))); (focus (omega))
              refine E.OW.store_int (i := 0) in3.size rfl rfl rfl rfl rfl rfl ?_ ?_; (focus (omega))
              refine E.OW.nil ?_
              refine E.blk_n ?_
              refine E.then_n ?_
              refine E.CW.region ?_
              refine E.OW.pure rfl rfl rfl (E.PV.move rfl rfl) ?_
              refine E.OW.pure rfl rfl rfl (E.PV.add_i64 rfl rfl rfl ?_) ?_; (focus (omega))
              refine E.OW.pure rfl rfl rfl (E.PV.assign rfl rfl) ?_
              refine E.OW.nil ?_
              refine E.then_nf ?_
              refine ⟨_, [(9, _)], [0, 0, 0, 0, 0], _, ?_, by repeat (first | exact E.cov_nil | refine ⟨rfl, ?_⟩), rfl, k + 1, _, rfl, rfl, rfl, by omega, by simp; omega⟩
              omega)
          · simp only [E.b0, E.b1, E.b2, E.b3, E.b4, E.b5, E.b6, E.b7, E.b8, E.b9, E.b10, E.b11, E.b12, E.b13, E.b14, E.b15, E.b16, E.b17, E.b18, E.b19, E.b20, reduceCtorEq] at hc
            all_goals (
              refine E.CW.exit ?_
              refine E.then_x ?_
              refine E.then_x ?_
              refine E.blk_eq ?_
              refine E.then_n ?_
              refine E.CW.seq ?_
              refine E.CW.region ?_
              refine E.OW.pure rfl rfl rfl (E.PV.loads (i := 1) is33 rfl rfl rfl rfl) ?_
              refine E.OW.pure rfl rfl rfl (E.PV.loads (i := 3) is33 rfl rfl rfl rfl) ?_
              (refine E.OW.call nm30 rfl rfl rfl rfl rfl rfl _ (fun w hw => rSameTeam_ok _ _ w ?_ ?_ ?_ ?_) ?_; (focus (exact hw.rdtm (i := 2) rfl)); (focus (refine hw.rdm ?_; assumption)); (focus (assumption)); (focus (assumption)); rintro _ _ ⟨rfl, rfl⟩)
              refine E.OW.pure rfl rfl rfl (E.PV.assign rfl rfl) ?_
              refine E.OW.nil ?_
              refine E.then_n ?_
              refine E.CW.ret ?_
              refine E.KR.one [] Try.results4 rfl rfl ?_
              exact ⟨by first | rfl | (simp [hmT]; done), rfl⟩)))
end Go.Proofs.Ytbdfljgnlendjaa
