/- Walks (printed by gen.py). -/
import Derived.Test.YtbofflmmgokkhaaG6
import Derived.Test.YtbofflmmgokkhaaFlO
namespace Go.Proofs.Ytbofflmmgokkhaa
open Go Go.RowKit
set_option linter.unusedSimpArgs false
set_option linter.unusedVariables false

set_option maxRecDepth 100000 in
theorem FloorSliceShares_ok (A : Option Addr) (c : Nat) (l : List UInt8) (w0 : World) (hl : l.length ≤ 140737488355328) (hX : E.Rd w0 (E.Old w0) A (E.u8s l)) :
    Calls Try.prog 12 #[.slice A l.length c] w0 (E.Post w0 (E.Old w0) fun v Hn => v = .bool true ∧ Hn = []) := by
  refine E.calls_of (vs := [.slice A l.length c]) (H := []) Try.func12 Try.ntmps12 rfl rfl (E.HA.start w0) ?_
  refine E.CW.seq ?_
  refine E.CW.region ?_
  refine E.OW.pure rfl rfl rfl (E.PV.assign rfl rfl) ?_
  refine E.OW.nil ?_
  refine E.then_n ?_
  refine E.CW.seq ?_
  refine E.CW.region ?_
  (refine E.OW.call nm54 rfl rfl rfl rfl rfl rfl _ (fun w hw => alive_ok w) ?_; rintro _ _ ⟨rfl, rfl⟩)
  refine E.OW.pure rfl rfl rfl (E.PV.assign rfl rfl) ?_
  refine E.OW.nil ?_
  refine E.then_n ?_
  refine E.CW.seq ?_
  refine E.CW.seq ?_
  refine E.CW.region ?_
  refine E.OW.pure rfl rfl rfl (E.PV.move rfl rfl) ?_
  (refine E.OW.call nm58 rfl rfl rfl rfl rfl rfl _ (fun w hw => rValidSlices_ok _ _ _ w ?_ ?_) ?_; (focus (assumption)); (focus (refine hw.rd ?_; assumption)); rintro _ _ ⟨rfl, rfl⟩)
  refine E.OW.pure rfl rfl rfl (E.PV.not rfl rfl) ?_
  refine E.OW.nil ?_
  refine E.then_n ?_
  refine E.CW.cond rfl (fun hc => ?_) (fun hc => ?_)
  · simp only [E.b0, E.b1, E.b2, E.b3, E.b4, E.b5, E.b6, E.b7, E.b8, E.b9, E.b10, E.b11, E.b12, E.b13, E.b14, E.b15, E.b16, E.b17, E.b18, E.b19, E.b20, reduceCtorEq] at hc
    all_goals (
      refine E.CW.seq ?_
      refine E.CW.region ?_
      refine E.OW.pure rfl rfl rfl (E.PV.move rfl rfl) ?_
      (refine E.OW.call nm19 rfl rfl rfl rfl rfl rfl _ (fun w hw => SliceOwner_ok _ _ _ _ ?_ w ?_ ?_) ?_; (focus (omega)); (focus (assumption)); (focus (refine hw.rd ?_; assumption)); rintro _ _ ⟨rfl, rfl⟩)
      refine E.OW.pure rfl rfl rfl (E.PV.move rfl rfl) ?_
      refine E.OW.pure rfl rfl rfl (E.PV.extract rfl rfl rfl) ?_
      refine E.OW.pure rfl rfl rfl (E.PV.extract rfl rfl rfl) ?_
      refine E.OW.pure rfl rfl rfl (E.PV.assign rfl rfl) ?_
      refine E.OW.pure rfl rfl rfl (E.PV.assign rfl rfl) ?_
      refine E.OW.nil ?_
      refine E.then_n ?_
      refine E.CW.seq ?_
      refine E.CW.region ?_
      refine E.OW.pure rfl rfl rfl (E.PV.move rfl rfl) ?_
      (refine E.OW.call nm23 rfl rfl rfl rfl rfl rfl _ (fun w hw => SliceLeft_ok _ _ _ _ ?_ _ w ?_ ?_) ?_; (focus (omega)); (focus (assumption)); (focus (refine hw.rd ?_; assumption)); rintro _ _ ⟨rfl, rfl⟩)
      refine E.OW.pure rfl rfl rfl (E.PV.move rfl rfl) ?_
      refine E.OW.pure rfl rfl rfl (E.PV.extract rfl rfl rfl) ?_
      refine E.OW.pure rfl rfl rfl (E.PV.extract rfl rfl rfl) ?_
      refine E.OW.pure rfl rfl rfl (E.PV.assign rfl rfl) ?_
      refine E.OW.pure rfl rfl rfl (E.PV.assign rfl rfl) ?_
      refine E.OW.nil ?_
      refine E.then_n ?_
      refine E.CW.seq ?_
      refine E.CW.region ?_
      refine E.OW.pure rfl rfl rfl (E.PV.move rfl rfl) ?_
      (refine E.OW.call nm25 rfl rfl rfl rfl rfl rfl _ (fun w hw => SliceWait_ok _ _ _ _ ?_ _ w ?_ ?_) ?_; (focus (omega)); (focus (assumption)); (focus (refine hw.rd ?_; assumption)); rintro _ _ ⟨rfl, rfl⟩)
      refine E.OW.pure rfl rfl rfl (E.PV.move rfl rfl) ?_
      refine E.OW.pure rfl rfl rfl (E.PV.extract rfl rfl rfl) ?_
      refine E.OW.pure rfl rfl rfl (E.PV.extract rfl rfl rfl) ?_
      refine E.OW.pure rfl rfl rfl (E.PV.assign rfl rfl) ?_
      refine E.OW.pure rfl rfl rfl (E.PV.assign rfl rfl) ?_
      refine E.OW.nil ?_
      refine E.then_n ?_
      refine E.CW.seq ?_
      have hs : Fl.validS l = false := by assumption
      have hcs : Fl.checkS l = 60 := by simp [Fl.checkS, hs]
      refine E.CW.put 5 (.int .i64 60) rfl (by simp [Fl.sliceOwner, hs]) ?_
      refine E.CW.put 7 (.int .i64 60) rfl (by simp [Fl.sliceLeft, hs]) ?_
      refine E.CW.put 9 (.int .i64 60) rfl (by simp [Fl.sliceWait, hs]) ?_
      refine E.CW.region ?_
      refine E.OW.pure rfl rfl rfl (E.PV.move rfl rfl) ?_
      refine E.OW.pure rfl rfl rfl (E.PV.move rfl rfl) ?_
      all_goals (refine E.OW.put 39 (.bool true) (v := .bool true) rfl rfl ?_)
      all_goals (refine E.OW.pure rfl rfl rfl (E.PV.move rfl rfl) ?_)
      all_goals ((refine E.OW.call nm21 rfl rfl rfl rfl rfl rfl _ (fun w hw => CheckSlices_ok _ _ _ w ?_ ?_) ?_; (focus (assumption)); (focus (refine hw.rd ?_; assumption)); rintro _ _ ⟨rfl, rfl⟩))
      all_goals (refine E.OW.pure rfl rfl rfl (E.PV.eql rfl rfl rfl) ?_)
      all_goals (refine E.OW.pure rfl rfl rfl (E.PV.pick_t rfl rfl rfl) ?_)
      all_goals (refine E.OW.pure rfl rfl rfl (E.PV.move rfl rfl) ?_)
      all_goals (refine E.OW.put 44 (.bool true) rfl (congrArg Value.bool ?_) ?_; (focus ((simp only [E.b0, E.b1, E.b2, E.b3, E.b4, E.b5, E.b6, E.b7, E.b8, E.b9, E.b10, E.b11, E.b12, E.b13, E.b14, E.b15, E.b16, E.b17, E.b18, E.b19, E.b20]; omega))))
      all_goals (refine E.OW.pure rfl rfl rfl (E.PV.move rfl rfl) ?_)
      all_goals (refine E.OW.pure rfl rfl rfl (E.PV.eql rfl rfl rfl) ?_)
      all_goals (refine E.OW.pure rfl rfl rfl (E.PV.pick_t rfl rfl rfl) ?_)
      all_goals (refine E.OW.pure rfl rfl rfl (E.PV.move rfl rfl) ?_)
      all_goals (refine E.OW.put 48 (.bool true) (v := .bool true) rfl rfl ?_)
      all_goals (refine E.OW.pure rfl rfl rfl (E.PV.move rfl rfl) ?_)
      all_goals (refine E.OW.pure rfl rfl rfl (E.PV.eql rfl rfl rfl) ?_)
      all_goals (refine E.OW.pure rfl rfl rfl (E.PV.pick_t rfl rfl rfl) ?_)
      all_goals (refine E.OW.pure rfl rfl rfl (E.PV.move rfl rfl) ?_)
      all_goals (refine E.OW.put 52 (.bool true) (v := .bool true) rfl rfl ?_)
      all_goals (refine E.OW.pure rfl rfl rfl (E.PV.move rfl rfl) ?_)
      all_goals (refine E.OW.pure rfl rfl rfl (E.PV.eql rfl rfl rfl) ?_)
      all_goals (refine E.OW.pure rfl rfl rfl (E.PV.pick_t rfl rfl rfl) ?_)
      all_goals (refine E.OW.pure rfl rfl rfl (E.PV.assign rfl rfl) ?_)
      all_goals (
        refine E.OW.nil ?_
        refine E.then_n ?_
        refine E.CW.ret ?_
        refine E.then_ret ?_
        refine E.KR.one [] Try.results12 rfl rfl ?_
        exact ⟨by first | rfl | (simp; done) | (simp; omega), rfl⟩))
  · simp only [E.b0, E.b1, E.b2, E.b3, E.b4, E.b5, E.b6, E.b7, E.b8, E.b9, E.b10, E.b11, E.b12, E.b13, E.b14, E.b15, E.b16, E.b17, E.b18, E.b19, E.b20, reduceCtorEq] at hc
    all_goals (
      refine E.CW.skip ?_
      refine E.then_n ?_
      refine E.CW.seq ?_
      have hs : Fl.validS l = true := by assumption
      have hv := (Fl.validS_iff.1 hs).1
      have hcs : Fl.checkS l = 0 := by simp [Fl.checkS, hs]
      refine E.CW.region ?_
      refine E.OW.pure rfl rfl rfl (E.PV.assign rfl rfl) ?_
      refine E.OW.nil ?_
      refine E.then_n ?_
      refine E.CW.seq ?_
      refine E.CW.seq ?_
      refine E.CW.region ?_
      refine E.OW.pure rfl rfl rfl (E.PV.assign rfl rfl) ?_
      refine E.OW.nil ?_
      refine E.then_n ?_
      refine E.CW.block ?_
      refine E.CW.loopk [0, 3] 0 rfl rfl (fun mm mods Hm => ∃ k : Nat, mm = l.length - k ∧ mods = [(11, .int .i64 k), (10, .int .i64 k)] ∧ Hm = [] ∧ k ≤ l.length) (l.length) ?_ ?_
      · exact ⟨[(11, _), (10, _)], (by repeat (first | exact E.cov_nil | refine ⟨rfl, ?_⟩)), 0, rfl, rfl, rfl, by omega⟩
      · rintro _ _ _ ⟨k, rfl, rfl, rfl, hk⟩
        refine E.CW.seq ?_
        refine E.CW.seq ?_
        refine E.CW.region ?_
        refine E.OW.pure rfl rfl rfl (E.PV.move rfl rfl) ?_
        refine E.OW.pure rfl rfl rfl (E.PV.move rfl rfl) ?_
        refine E.OW.pure rfl rfl rfl (E.PV.len Try.underlying22 rfl rfl) ?_
        refine E.OW.pure rfl rfl rfl (E.PV.lss rfl rfl rfl) ?_
        refine E.OW.nil ?_
        refine E.then_n ?_
        refine E.CW.cond rfl (fun hc => ?_) (fun hc => ?_)
        · simp only [E.b0, E.b1, E.b2, E.b3, E.b4, E.b5, E.b6, E.b7, E.b8, E.b9, E.b10, E.b11, E.b12, E.b13, E.b14, E.b15, E.b16, E.b17, E.b18, E.b19, E.b20, reduceCtorEq] at hc
          all_goals (
            refine E.CW.skip ?_
            refine E.then_n ?_
            refine E.CW.seq ?_
            refine E.CW.block ?_
            refine E.CW.seq ?_
            refine E.CW.region ?_
            refine E.OW.pure rfl rfl rfl (E.PV.move rfl rfl) ?_
            refine E.OW.pure rfl rfl rfl (E.PV.move rfl rfl) ?_
            refine E.OW.pure rfl rfl rfl (E.PV.conv_in Try.underlying3 Try.underlying23 rfl rfl ?_) ?_; (focus (first | exact E.wrap_u8 _ | (simp only [IntKind.wrap_i64, IntKind.wrap_u64, IntKind.wrap_u8]; omega)))
            (refine E.OW.call nm19 rfl rfl rfl rfl rfl rfl _ (fun w hw => SliceOwner_ok _ _ _ _ ?_ w ?_ ?_) ?_; (focus (omega)); (focus (assumption)); (focus (refine hw.rd ?_; assumption)); rintro _ _ ⟨rfl, rfl⟩)
            refine E.OW.pure rfl rfl rfl (E.PV.move rfl rfl) ?_
            refine E.OW.pure rfl rfl rfl (E.PV.extract rfl rfl rfl) ?_
            refine E.OW.pure rfl rfl rfl (E.PV.extract rfl rfl rfl) ?_
            refine E.OW.pure rfl rfl rfl (E.PV.assign rfl rfl) ?_
            refine E.OW.pure rfl rfl rfl (E.PV.assign rfl rfl) ?_
            refine E.OW.nil ?_
            refine E.then_n ?_
            refine E.CW.seq ?_
            refine E.CW.seq ?_
            have hsa := Fl.owner_at hs (show k < l.length by omega)
            have hle := Fl.code_le hs (show k < l.length by omega)
            refine E.CW.put 12 (.int .i64 (((l.getD k 0).toNat : Int) - 1)) rfl (by rw [hsa]; rfl) ?_
            refine E.CW.put 13 (.int .i64 0) rfl (by rw [hsa]; rfl) ?_
            refine E.CW.region ?_
            refine E.OW.pure rfl rfl rfl (E.PV.move rfl rfl) ?_
            refine E.OW.pure rfl rfl rfl (E.PV.move rfl rfl) ?_
            refine E.OW.pure rfl rfl rfl (E.PV.move rfl rfl) ?_
            refine E.OW.pure rfl rfl rfl (E.PV.move rfl rfl) ?_
            refine E.OW.pure rfl rfl rfl (E.PV.indexAddr1 (E.rdc hX) Try.underlying22 in5 rfl rfl rfl rfl ?_ ?_) ?_; (focus (simp)); (focus (omega))
            refine E.OW.pure rfl rfl rfl (E.PV.load_u8 (E.rdc hX) na5 rfl rfl ?_) ?_; (focus (omega))
            refine E.OW.pure rfl rfl rfl (E.PV.conv_in Try.underlying5 Try.underlying3 rfl rfl ?_) ?_; (focus (first | exact E.wrap_u8 _ | (simp only [IntKind.wrap_i64, IntKind.wrap_u64, IntKind.wrap_u8]; omega)))
            refine E.OW.pure rfl rfl rfl (E.PV.sub_i64 rfl rfl rfl ?_) ?_; (focus (omega))
            (refine E.OW.call nm56 rfl rfl rfl rfl rfl rfl _ (fun w hw => is_ok _ _ _ w) ?_; rintro _ _ ⟨rfl, rfl⟩)
            refine E.OW.pure rfl rfl rfl (E.PV.not rfl rfl) ?_
            refine E.OW.nil ?_
            refine E.then_n ?_
            refine E.CW.cond rfl (fun hc => ?_) (fun hc => ?_)
            · simp only [E.b0, E.b1, E.b2, E.b3, E.b4, E.b5, E.b6, E.b7, E.b8, E.b9, E.b10, E.b11, E.b12, E.b13, E.b14, E.b15, E.b16, E.b17, E.b18, E.b19, E.b20, reduceCtorEq] at hc
              all_goals (exfalso; contradiction)
            · simp only [E.b0, E.b1, E.b2, E.b3, E.b4, E.b5, E.b6, E.b7, E.b8, E.b9, E.b10, E.b11, E.b12, E.b13, E.b14, E.b15, E.b16, E.b17, E.b18, E.b19, E.b20, reduceCtorEq] at hc
              all_goals (
                refine E.CW.skip ?_
                refine E.then_n ?_
                refine E.CW.seq ?_
                refine E.CW.seq ?_
                refine E.CW.region ?_
                refine E.OW.pure rfl rfl rfl (E.PV.move rfl rfl) ?_
                refine E.OW.pure rfl rfl rfl (E.PV.eql rfl rfl rfl) ?_
                refine E.OW.nil ?_
                refine E.then_n ?_
                refine E.CW.cond rfl (fun hc => ?_) (fun hc => ?_)
                · simp only [E.b0, E.b1, E.b2, E.b3, E.b4, E.b5, E.b6, E.b7, E.b8, E.b9, E.b10, E.b11, E.b12, E.b13, E.b14, E.b15, E.b16, E.b17, E.b18, E.b19, E.b20, reduceCtorEq] at hc
                  all_goals (
                    refine E.CW.region ?_
                    refine E.OW.pure rfl rfl rfl (E.PV.move rfl rfl) ?_
                    refine E.OW.pure rfl rfl rfl (E.PV.add_i64 rfl rfl rfl ?_) ?_; (focus (omega))
                    refine E.OW.pure rfl rfl rfl (E.PV.assign rfl rfl) ?_
                    refine E.OW.nil ?_
                    refine E.then_n ?_
                    refine E.CW.seq ?_
                    refine E.CW.region ?_
                    refine E.OW.pure rfl rfl rfl (E.PV.assign rfl rfl) ?_
                    refine E.OW.nil ?_
                    refine E.then_n ?_
                    refine E.CW.block ?_
                    refine E.CW.loopk [0, 3, 11, 12] 0 rfl rfl (fun mm mods Hm => ∃ u : Nat, ∃ al : Int, mm = 3 - u ∧ mods = [(14, .int .i64 u), (10, .int .i64 al)] ∧ Hm = [] ∧ (u ≤ 3 ∧ (((((l.getD k 0).toNat : Int) - 1) = -1 ∨ (0 ≤ (((l.getD k 0).toNat : Int) - 1) ∧ (((l.getD k 0).toNat : Int) - 1) < (u : Int))) ∧ al = (k : Int) + 1 ∨ ¬ ((((l.getD k 0).toNat : Int) - 1) = -1 ∨ (0 ≤ (((l.getD k 0).toNat : Int) - 1) ∧ (((l.getD k 0).toNat : Int) - 1) < (u : Int))) ∧ al = (k : Int)))) (3) ?_ ?_
                    · exact ⟨[(14, _), (10, _)], (by repeat (first | exact E.cov_nil | refine ⟨rfl, ?_⟩)), 0, _, rfl, rfl, rfl, by omega, by omega⟩
                    · rintro _ _ _ ⟨u, al, rfl, rfl, rfl, hu, hal⟩
                      refine E.CW.seq ?_
                      refine E.CW.seq ?_
                      refine E.CW.region ?_
                      refine E.OW.pure rfl rfl rfl (E.PV.move rfl rfl) ?_
                      refine E.OW.pure rfl rfl rfl (E.PV.lss rfl rfl rfl) ?_
                      refine E.OW.nil ?_
                      refine E.then_n ?_
                      refine E.CW.cond rfl (fun hc => ?_) (fun hc => ?_)
                      · simp only [E.b0, E.b1, E.b2, E.b3, E.b4, E.b5, E.b6, E.b7, E.b8, E.b9, E.b10, E.b11, E.b12, E.b13, E.b14, E.b15, E.b16, E.b17, E.b18, E.b19, E.b20, reduceCtorEq] at hc
                        all_goals (
                          refine E.CW.skip ?_
                          refine E.then_n ?_
                          refine E.CW.seq ?_
                          refine E.CW.block ?_
                          refine E.CW.seq ?_
                          refine E.CW.region ?_
                          refine E.OW.pure rfl rfl rfl (E.PV.move rfl rfl) ?_
                          refine E.OW.pure rfl rfl rfl (E.PV.move rfl rfl) ?_
                          refine E.OW.pure rfl rfl rfl (E.PV.conv_in Try.underlying3 Try.underlying23 rfl rfl ?_) ?_; (focus (first | exact E.wrap_u8 _ | (simp only [IntKind.wrap_i64, IntKind.wrap_u64, IntKind.wrap_u8]; omega)))
                          refine E.OW.pure rfl rfl rfl (E.PV.move rfl rfl) ?_
                          (refine E.OW.call nm23 rfl rfl rfl rfl rfl rfl _ (fun w hw => SliceLeft_ok _ _ _ _ ?_ _ w ?_ ?_) ?_; (focus (omega)); (focus (assumption)); (focus (refine hw.rd ?_; assumption)); rintro _ _ ⟨rfl, rfl⟩)
                          refine E.OW.pure rfl rfl rfl (E.PV.move rfl rfl) ?_
                          refine E.OW.pure rfl rfl rfl (E.PV.extract rfl rfl rfl) ?_
                          refine E.OW.pure rfl rfl rfl (E.PV.extract rfl rfl rfl) ?_
                          refine E.OW.pure rfl rfl rfl (E.PV.assign rfl rfl) ?_
                          refine E.OW.pure rfl rfl rfl (E.PV.assign rfl rfl) ?_
                          refine E.OW.nil ?_
                          refine E.then_n ?_
                          refine E.CW.seq ?_
                          refine E.CW.region ?_
                          refine E.OW.pure rfl rfl rfl (E.PV.move rfl rfl) ?_
                          refine E.OW.pure rfl rfl rfl (E.PV.move rfl rfl) ?_
                          refine E.OW.pure rfl rfl rfl (E.PV.conv_in Try.underlying3 Try.underlying23 rfl rfl ?_) ?_; (focus (first | exact E.wrap_u8 _ | (simp only [IntKind.wrap_i64, IntKind.wrap_u64, IntKind.wrap_u8]; omega)))
                          refine E.OW.pure rfl rfl rfl (E.PV.move rfl rfl) ?_
                          (refine E.OW.call nm25 rfl rfl rfl rfl rfl rfl _ (fun w hw => SliceWait_ok _ _ _ _ ?_ _ w ?_ ?_) ?_; (focus (omega)); (focus (assumption)); (focus (refine hw.rd ?_; assumption)); rintro _ _ ⟨rfl, rfl⟩)
                          refine E.OW.pure rfl rfl rfl (E.PV.move rfl rfl) ?_
                          refine E.OW.pure rfl rfl rfl (E.PV.extract rfl rfl rfl) ?_
                          refine E.OW.pure rfl rfl rfl (E.PV.extract rfl rfl rfl) ?_
                          refine E.OW.pure rfl rfl rfl (E.PV.assign rfl rfl) ?_
                          refine E.OW.pure rfl rfl rfl (E.PV.assign rfl rfl) ?_
                          refine E.OW.nil ?_
                          refine E.then_n ?_
                          refine E.CW.seq ?_
                          refine E.CW.seq ?_
                          have hib := Fl.inB_iff.2 (show 0 ≤ (u : Int) ∧ (u : Int) < 3 by omega)
                          have hsw := Fl.sown_at (l := l) (k := k) (by omega)
                          have h1 := Fl.left_at (tick := (k : Int)) (t := (u : Int)) (show 0 < l.length by omega)
                          have h2 := Fl.wait_at (tick := (k : Int)) (t := (u : Int)) (show 0 < l.length by omega)
                          rw [hsw] at h1 h2
                          clear hsw
                          refine E.CW.put 15 (.int .i64 ((Fl.run l k u true : Nat) : Int)) rfl (by rw [Fl.left_ok hs hib]; rfl) ?_
                          refine E.CW.put 16 (.int .i64 0) rfl (by rw [Fl.left_ok hs hib]; rfl) ?_
                          obtain ⟨m, e, hw, hwe⟩ := Fl.wait_ex (tick := (k : Int)) hs hib
                          refine E.CW.put 17 (.int .i64 m) rfl (by rw [hw]; rfl) ?_
                          refine E.CW.put 18 (.int .i64 e) rfl (by rw [hw]; rfl) ?_
                          refine E.CW.region ?_
                          refine E.OW.pure rfl rfl rfl (E.PV.move rfl rfl) ?_
                          refine E.OW.pure rfl rfl rfl (E.PV.neq rfl rfl rfl) ?_
                          refine E.OW.pure rfl rfl rfl (E.PV.move rfl rfl) ?_
                          all_goals (refine E.OW.put 105 (.bool false) (v := .bool false) rfl rfl ?_)
                          all_goals (refine E.OW.pure rfl rfl rfl (E.PV.move rfl rfl) ?_)
                          all_goals (refine E.OW.pure rfl rfl rfl (E.PV.gtr rfl rfl rfl) ?_)
                          all_goals (refine E.OW.pure rfl rfl rfl (E.PV.move rfl rfl) ?_)
                          all_goals (refine E.OW.pure rfl rfl rfl (E.PV.move rfl rfl) ?_)
                          all_goals (refine E.OW.pure rfl rfl rfl (E.PV.eql rfl rfl rfl) ?_)
                          all_goals (refine E.OW.pure rfl rfl rfl (E.PV.bne Try.underlying4 rfl rfl rfl) ?_)
                          all_goals (refine E.OW.pure rfl rfl rfl (E.PV.pick_f rfl rfl rfl) ?_)
                          all_goals (refine E.OW.pure rfl rfl rfl (E.PV.move rfl rfl) ?_)
                          all_goals (refine E.OW.put 113 (.bool false) rfl (congrArg Value.bool ?_) ?_; (focus (refine Fl.ne_dec ?_; omega)))
                          all_goals (refine E.OW.pure rfl rfl rfl (E.PV.move rfl rfl) ?_)
                          all_goals (refine E.OW.pure rfl rfl rfl (E.PV.eql rfl rfl rfl) ?_)
                          all_goals (refine E.OW.pure rfl rfl rfl (E.PV.move rfl rfl) ?_)
                          all_goals (refine E.OW.split 116 rfl (fun hc => ?_) (fun hc => ?_) <;> (try simp only [E.b0, E.b1, E.b2, E.b3, E.b4, E.b5, E.b6, E.b7, E.b8, E.b9, E.b10, E.b11, E.b12, E.b13, E.b14, E.b15, E.b16, E.b17, E.b18, E.b19, E.b20, reduceCtorEq] at hc) <;> (try (exfalso; first | assumption | contradiction | omega)))
                          all_goals (first | (refine E.OW.off rfl rfl rfl ?_) | (refine E.OW.pure rfl rfl rfl (E.PV.move rfl rfl) ?_))
                          all_goals (first | (refine E.OW.off rfl rfl rfl ?_) | (refine E.OW.pure rfl rfl rfl (E.PV.eql rfl rfl rfl) ?_))
                          all_goals (first | (refine E.OW.pure rfl rfl rfl (E.PV.pick_t rfl rfl rfl) ?_) | (refine E.OW.pure rfl rfl rfl (E.PV.pick_f rfl rfl rfl) ?_))
                          all_goals (refine E.OW.pure rfl rfl rfl (E.PV.move rfl rfl) ?_)
                          all_goals (refine E.OW.pure rfl rfl rfl (E.PV.move rfl rfl) ?_)
                          all_goals (refine E.OW.pure rfl rfl rfl (E.PV.eql rfl rfl rfl) ?_)
                          all_goals (refine E.OW.pure rfl rfl rfl (E.PV.bne Try.underlying4 rfl rfl rfl) ?_)
                          all_goals (refine E.OW.pure rfl rfl rfl (E.PV.pick_f rfl rfl rfl) ?_)
                          all_goals (
                            refine E.OW.nil ?_
                            refine E.then_n ?_
                            refine E.CW.cond rfl (fun hc => ?_) (fun hc => ?_)
                            · simp only [E.b0, E.b1, E.b2, E.b3, E.b4, E.b5, E.b6, E.b7, E.b8, E.b9, E.b10, E.b11, E.b12, E.b13, E.b14, E.b15, E.b16, E.b17, E.b18, E.b19, E.b20, reduceCtorEq] at hc
                              all_goals (exfalso; first | (refine hc (decide_eq_decide.2 ?_); omega) | (refine hc (decide_eq_false ?_).symm; omega))
                            · simp only [E.b0, E.b1, E.b2, E.b3, E.b4, E.b5, E.b6, E.b7, E.b8, E.b9, E.b10, E.b11, E.b12, E.b13, E.b14, E.b15, E.b16, E.b17, E.b18, E.b19, E.b20, reduceCtorEq] at hc
                              all_goals (
                                refine E.CW.skip ?_
                                refine E.then_n ?_
                                refine E.CW.seq ?_
                                refine E.CW.region ?_
                                refine E.OW.pure rfl rfl rfl (E.PV.move rfl rfl) ?_
                                refine E.OW.pure rfl rfl rfl (E.PV.gtr rfl rfl rfl) ?_
                                refine E.OW.nil ?_
                                refine E.then_n ?_
                                refine E.CW.cond rfl (fun hc => ?_) (fun hc => ?_)
                                · simp only [E.b0, E.b1, E.b2, E.b3, E.b4, E.b5, E.b6, E.b7, E.b8, E.b9, E.b10, E.b11, E.b12, E.b13, E.b14, E.b15, E.b16, E.b17, E.b18, E.b19, E.b20, reduceCtorEq] at hc
                                  all_goals (exfalso; omega)
                                · simp only [E.b0, E.b1, E.b2, E.b3, E.b4, E.b5, E.b6, E.b7, E.b8, E.b9, E.b10, E.b11, E.b12, E.b13, E.b14, E.b15, E.b16, E.b17, E.b18, E.b19, E.b20, reduceCtorEq] at hc
                                  all_goals (
                                    refine E.CW.skip ?_
                                    refine E.blk_n ?_
                                    refine E.then_n ?_
                                    refine E.CW.region ?_
                                    refine E.OW.pure rfl rfl rfl (E.PV.move rfl rfl) ?_
                                    refine E.OW.pure rfl rfl rfl (E.PV.add_i64 rfl rfl rfl ?_) ?_; (focus (omega))
                                    refine E.OW.pure rfl rfl rfl (E.PV.assign rfl rfl) ?_
                                    refine E.OW.nil ?_
                                    refine E.then_nf ?_
                                    refine ⟨_, [(14, _), (10, _)], [], _, ?_, by repeat (first | exact E.cov_nil | refine ⟨rfl, ?_⟩), rfl, u + 1, _, rfl, rfl, rfl, by omega, by omega⟩
                                    omega))))
                      · simp only [E.b0, E.b1, E.b2, E.b3, E.b4, E.b5, E.b6, E.b7, E.b8, E.b9, E.b10, E.b11, E.b12, E.b13, E.b14, E.b15, E.b16, E.b17, E.b18, E.b19, E.b20, reduceCtorEq] at hc
                        all_goals (
                          refine E.CW.exit ?_
                          refine E.then_x ?_
                          refine E.then_x ?_
                          refine E.blk_eq ?_
                          refine E.blk_n ?_
                          refine E.then_n ?_
                          refine E.CW.region ?_
                          refine E.OW.pure rfl rfl rfl (E.PV.move rfl rfl) ?_
                          refine E.OW.pure rfl rfl rfl (E.PV.add_i64 rfl rfl rfl ?_) ?_; (focus (omega))
                          refine E.OW.pure rfl rfl rfl (E.PV.assign rfl rfl) ?_
                          refine E.OW.nil ?_
                          refine E.then_nf ?_
                          refine ⟨_, [(11, _), (10, _)], [], _, ?_, by repeat (first | exact E.cov_nil | refine ⟨rfl, ?_⟩), rfl, k + 1, rfl, by (rw [show al = (k : Int) + 1 by omega]; rfl), rfl, by omega⟩
                          omega))
                · simp only [E.b0, E.b1, E.b2, E.b3, E.b4, E.b5, E.b6, E.b7, E.b8, E.b9, E.b10, E.b11, E.b12, E.b13, E.b14, E.b15, E.b16, E.b17, E.b18, E.b19, E.b20, reduceCtorEq] at hc
                  all_goals (
                    refine E.CW.skip ?_
                    refine E.then_n ?_
                    refine E.CW.seq ?_
                    refine E.CW.region ?_
                    refine E.OW.pure rfl rfl rfl (E.PV.assign rfl rfl) ?_
                    refine E.OW.nil ?_
                    refine E.then_n ?_
                    refine E.CW.block ?_
                    refine E.CW.loopk [0, 3, 11, 12] 0 rfl rfl (fun mm mods Hm => ∃ u : Nat, ∃ al : Int, mm = 3 - u ∧ mods = [(14, .int .i64 u), (10, .int .i64 al)] ∧ Hm = [] ∧ (u ≤ 3 ∧ (((((l.getD k 0).toNat : Int) - 1) = -1 ∨ (0 ≤ (((l.getD k 0).toNat : Int) - 1) ∧ (((l.getD k 0).toNat : Int) - 1) < (u : Int))) ∧ al = (k : Int) + 1 ∨ ¬ ((((l.getD k 0).toNat : Int) - 1) = -1 ∨ (0 ≤ (((l.getD k 0).toNat : Int) - 1) ∧ (((l.getD k 0).toNat : Int) - 1) < (u : Int))) ∧ al = (k : Int)))) (3) ?_ ?_
                    · exact ⟨[(14, _), (10, _)], (by repeat (first | exact E.cov_nil | refine ⟨rfl, ?_⟩)), 0, _, rfl, rfl, rfl, by omega, by omega⟩
                    · rintro _ _ _ ⟨u, al, rfl, rfl, rfl, hu, hal⟩
                      refine E.CW.seq ?_
                      refine E.CW.seq ?_
                      refine E.CW.region ?_
                      refine E.OW.pure rfl rfl rfl (E.PV.move rfl rfl) ?_
                      refine E.OW.pure rfl rfl rfl (E.PV.lss rfl rfl rfl) ?_
                      refine E.OW.nil ?_
                      refine E.then_n ?_
                      refine E.CW.cond rfl (fun hc => ?_) (fun hc => ?_)
                      · simp only [E.b0, E.b1, E.b2, E.b3, E.b4, E.b5, E.b6, E.b7, E.b8, E.b9, E.b10, E.b11, E.b12, E.b13, E.b14, E.b15, E.b16, E.b17, E.b18, E.b19, E.b20, reduceCtorEq] at hc
                        all_goals (
                          refine E.CW.skip ?_
                          refine E.then_n ?_
                          refine E.CW.seq ?_
                          refine E.CW.block ?_
                          refine E.CW.seq ?_
                          refine E.CW.region ?_
                          refine E.OW.pure rfl rfl rfl (E.PV.move rfl rfl) ?_
                          refine E.OW.pure rfl rfl rfl (E.PV.move rfl rfl) ?_
                          refine E.OW.pure rfl rfl rfl (E.PV.conv_in Try.underlying3 Try.underlying23 rfl rfl ?_) ?_; (focus (first | exact E.wrap_u8 _ | (simp only [IntKind.wrap_i64, IntKind.wrap_u64, IntKind.wrap_u8]; omega)))
                          refine E.OW.pure rfl rfl rfl (E.PV.move rfl rfl) ?_
                          (refine E.OW.call nm23 rfl rfl rfl rfl rfl rfl _ (fun w hw => SliceLeft_ok _ _ _ _ ?_ _ w ?_ ?_) ?_; (focus (omega)); (focus (assumption)); (focus (refine hw.rd ?_; assumption)); rintro _ _ ⟨rfl, rfl⟩)
                          refine E.OW.pure rfl rfl rfl (E.PV.move rfl rfl) ?_
                          refine E.OW.pure rfl rfl rfl (E.PV.extract rfl rfl rfl) ?_
                          refine E.OW.pure rfl rfl rfl (E.PV.extract rfl rfl rfl) ?_
                          refine E.OW.pure rfl rfl rfl (E.PV.assign rfl rfl) ?_
                          refine E.OW.pure rfl rfl rfl (E.PV.assign rfl rfl) ?_
                          refine E.OW.nil ?_
                          refine E.then_n ?_
                          refine E.CW.seq ?_
                          refine E.CW.region ?_
                          refine E.OW.pure rfl rfl rfl (E.PV.move rfl rfl) ?_
                          refine E.OW.pure rfl rfl rfl (E.PV.move rfl rfl) ?_
                          refine E.OW.pure rfl rfl rfl (E.PV.conv_in Try.underlying3 Try.underlying23 rfl rfl ?_) ?_; (focus (first | exact E.wrap_u8 _ | (simp only [IntKind.wrap_i64, IntKind.wrap_u64, IntKind.wrap_u8]; omega)))
                          refine E.OW.pure rfl rfl rfl (E.PV.move rfl rfl) ?_
                          (refine E.OW.call nm25 rfl rfl rfl rfl rfl rfl _ (fun w hw => SliceWait_ok _ _ _ _ ?_ _ w ?_ ?_) ?_; (focus (omega)); (focus (assumption)); (focus (refine hw.rd ?_; assumption)); rintro _ _ ⟨rfl, rfl⟩)
                          refine E.OW.pure rfl rfl rfl (E.PV.move rfl rfl) ?_
                          refine E.OW.pure rfl rfl rfl (E.PV.extract rfl rfl rfl) ?_
                          refine E.OW.pure rfl rfl rfl (E.PV.extract rfl rfl rfl) ?_
                          refine E.OW.pure rfl rfl rfl (E.PV.assign rfl rfl) ?_
                          refine E.OW.pure rfl rfl rfl (E.PV.assign rfl rfl) ?_
                          refine E.OW.nil ?_
                          refine E.then_n ?_
                          refine E.CW.seq ?_
                          refine E.CW.seq ?_
                          have hib := Fl.inB_iff.2 (show 0 ≤ (u : Int) ∧ (u : Int) < 3 by omega)
                          have hsw := Fl.sown_at (l := l) (k := k) (by omega)
                          have h1 := Fl.left_at (tick := (k : Int)) (t := (u : Int)) (show 0 < l.length by omega)
                          have h2 := Fl.wait_at (tick := (k : Int)) (t := (u : Int)) (show 0 < l.length by omega)
                          rw [hsw] at h1 h2
                          clear hsw
                          refine E.CW.put 15 (.int .i64 ((Fl.run l k u true : Nat) : Int)) rfl (by rw [Fl.left_ok hs hib]; rfl) ?_
                          refine E.CW.put 16 (.int .i64 0) rfl (by rw [Fl.left_ok hs hib]; rfl) ?_
                          obtain ⟨m, e, hw, hwe⟩ := Fl.wait_ex (tick := (k : Int)) hs hib
                          refine E.CW.put 17 (.int .i64 m) rfl (by rw [hw]; rfl) ?_
                          refine E.CW.put 18 (.int .i64 e) rfl (by rw [hw]; rfl) ?_
                          refine E.CW.region ?_
                          refine E.OW.pure rfl rfl rfl (E.PV.move rfl rfl) ?_
                          refine E.OW.pure rfl rfl rfl (E.PV.neq rfl rfl rfl) ?_
                          refine E.OW.pure rfl rfl rfl (E.PV.move rfl rfl) ?_
                          all_goals (refine E.OW.put 105 (.bool false) (v := .bool false) rfl rfl ?_)
                          all_goals (refine E.OW.pure rfl rfl rfl (E.PV.move rfl rfl) ?_)
                          all_goals (refine E.OW.pure rfl rfl rfl (E.PV.gtr rfl rfl rfl) ?_)
                          all_goals (refine E.OW.pure rfl rfl rfl (E.PV.move rfl rfl) ?_)
                          all_goals (refine E.OW.pure rfl rfl rfl (E.PV.move rfl rfl) ?_)
                          all_goals (refine E.OW.pure rfl rfl rfl (E.PV.eql rfl rfl rfl) ?_)
                          all_goals (refine E.OW.pure rfl rfl rfl (E.PV.bne Try.underlying4 rfl rfl rfl) ?_)
                          all_goals (refine E.OW.pure rfl rfl rfl (E.PV.pick_f rfl rfl rfl) ?_)
                          all_goals (refine E.OW.pure rfl rfl rfl (E.PV.move rfl rfl) ?_)
                          all_goals (refine E.OW.put 113 (.bool false) rfl (congrArg Value.bool ?_) ?_; (focus (refine Fl.ne_dec ?_; omega)))
                          all_goals (refine E.OW.pure rfl rfl rfl (E.PV.move rfl rfl) ?_)
                          all_goals (refine E.OW.pure rfl rfl rfl (E.PV.eql rfl rfl rfl) ?_)
                          all_goals (refine E.OW.pure rfl rfl rfl (E.PV.move rfl rfl) ?_)
                          all_goals (refine E.OW.split 116 rfl (fun hc => ?_) (fun hc => ?_) <;> (try simp only [E.b0, E.b1, E.b2, E.b3, E.b4, E.b5, E.b6, E.b7, E.b8, E.b9, E.b10, E.b11, E.b12, E.b13, E.b14, E.b15, E.b16, E.b17, E.b18, E.b19, E.b20, reduceCtorEq] at hc) <;> (try (exfalso; first | assumption | contradiction | omega)))
                          all_goals (first | (refine E.OW.off rfl rfl rfl ?_) | (refine E.OW.pure rfl rfl rfl (E.PV.move rfl rfl) ?_))
                          all_goals (first | (refine E.OW.off rfl rfl rfl ?_) | (refine E.OW.pure rfl rfl rfl (E.PV.eql rfl rfl rfl) ?_))
                          all_goals (first | (refine E.OW.pure rfl rfl rfl (E.PV.pick_t rfl rfl rfl) ?_) | (refine E.OW.pure rfl rfl rfl (E.PV.pick_f rfl rfl rfl) ?_))
                          all_goals (refine E.OW.pure rfl rfl rfl (E.PV.move rfl rfl) ?_)
                          all_goals (refine E.OW.pure rfl rfl rfl (E.PV.move rfl rfl) ?_)
                          all_goals (refine E.OW.pure rfl rfl rfl (E.PV.eql rfl rfl rfl) ?_)
                          all_goals (refine E.OW.pure rfl rfl rfl (E.PV.bne Try.underlying4 rfl rfl rfl) ?_)
                          all_goals (refine E.OW.pure rfl rfl rfl (E.PV.pick_f rfl rfl rfl) ?_)
                          all_goals (
                            refine E.OW.nil ?_
                            refine E.then_n ?_
                            refine E.CW.cond rfl (fun hc => ?_) (fun hc => ?_)
                            · simp only [E.b0, E.b1, E.b2, E.b3, E.b4, E.b5, E.b6, E.b7, E.b8, E.b9, E.b10, E.b11, E.b12, E.b13, E.b14, E.b15, E.b16, E.b17, E.b18, E.b19, E.b20, reduceCtorEq] at hc
                              all_goals (exfalso; first | (refine hc (decide_eq_decide.2 ?_); omega) | (refine hc (decide_eq_false ?_).symm; omega))
                            · simp only [E.b0, E.b1, E.b2, E.b3, E.b4, E.b5, E.b6, E.b7, E.b8, E.b9, E.b10, E.b11, E.b12, E.b13, E.b14, E.b15, E.b16, E.b17, E.b18, E.b19, E.b20, reduceCtorEq] at hc
                              all_goals (
                                refine E.CW.skip ?_
                                refine E.then_n ?_
                                refine E.CW.seq ?_
                                refine E.CW.region ?_
                                refine E.OW.pure rfl rfl rfl (E.PV.move rfl rfl) ?_
                                refine E.OW.pure rfl rfl rfl (E.PV.gtr rfl rfl rfl) ?_
                                refine E.OW.nil ?_
                                refine E.then_n ?_
                                refine E.CW.cond rfl (fun hc => ?_) (fun hc => ?_)
                                · simp only [E.b0, E.b1, E.b2, E.b3, E.b4, E.b5, E.b6, E.b7, E.b8, E.b9, E.b10, E.b11, E.b12, E.b13, E.b14, E.b15, E.b16, E.b17, E.b18, E.b19, E.b20, reduceCtorEq] at hc
                                  all_goals (try (exfalso; omega))
                                  all_goals (
                                    refine E.CW.region ?_
                                    refine E.OW.pure rfl rfl rfl (E.PV.move rfl rfl) ?_
                                    refine E.OW.pure rfl rfl rfl (E.PV.add_i64 rfl rfl rfl ?_) ?_; (focus (omega))
                                    refine E.OW.pure rfl rfl rfl (E.PV.assign rfl rfl) ?_
                                    refine E.OW.nil ?_
                                    refine E.blk_n ?_
                                    refine E.then_n ?_
                                    refine E.CW.region ?_
                                    refine E.OW.pure rfl rfl rfl (E.PV.move rfl rfl) ?_
                                    refine E.OW.pure rfl rfl rfl (E.PV.add_i64 rfl rfl rfl ?_) ?_; (focus (omega))
                                    refine E.OW.pure rfl rfl rfl (E.PV.assign rfl rfl) ?_
                                    refine E.OW.nil ?_
                                    refine E.then_nf ?_
                                    refine ⟨_, [(14, _), (10, _)], [], _, ?_, by repeat (first | exact E.cov_nil | refine ⟨rfl, ?_⟩), rfl, u + 1, _, rfl, rfl, rfl, by omega, by omega⟩
                                    omega)
                                · simp only [E.b0, E.b1, E.b2, E.b3, E.b4, E.b5, E.b6, E.b7, E.b8, E.b9, E.b10, E.b11, E.b12, E.b13, E.b14, E.b15, E.b16, E.b17, E.b18, E.b19, E.b20, reduceCtorEq] at hc
                                  all_goals (
                                    refine E.CW.skip ?_
                                    refine E.blk_n ?_
                                    refine E.then_n ?_
                                    refine E.CW.region ?_
                                    refine E.OW.pure rfl rfl rfl (E.PV.move rfl rfl) ?_
                                    refine E.OW.pure rfl rfl rfl (E.PV.add_i64 rfl rfl rfl ?_) ?_; (focus (omega))
                                    refine E.OW.pure rfl rfl rfl (E.PV.assign rfl rfl) ?_
                                    refine E.OW.nil ?_
                                    refine E.then_nf ?_
                                    refine ⟨_, [(14, _), (10, _)], [], _, ?_, by repeat (first | exact E.cov_nil | refine ⟨rfl, ?_⟩), rfl, u + 1, _, rfl, rfl, rfl, by omega, by omega⟩
                                    omega))))
                      · simp only [E.b0, E.b1, E.b2, E.b3, E.b4, E.b5, E.b6, E.b7, E.b8, E.b9, E.b10, E.b11, E.b12, E.b13, E.b14, E.b15, E.b16, E.b17, E.b18, E.b19, E.b20, reduceCtorEq] at hc
                        all_goals (
                          refine E.CW.exit ?_
                          refine E.then_x ?_
                          refine E.then_x ?_
                          refine E.blk_eq ?_
                          refine E.blk_n ?_
                          refine E.then_n ?_
                          refine E.CW.region ?_
                          refine E.OW.pure rfl rfl rfl (E.PV.move rfl rfl) ?_
                          refine E.OW.pure rfl rfl rfl (E.PV.add_i64 rfl rfl rfl ?_) ?_; (focus (omega))
                          refine E.OW.pure rfl rfl rfl (E.PV.assign rfl rfl) ?_
                          refine E.OW.nil ?_
                          refine E.then_nf ?_
                          refine ⟨_, [(11, _), (10, _)], [], _, ?_, by repeat (first | exact E.cov_nil | refine ⟨rfl, ?_⟩), rfl, k + 1, rfl, by (rw [show al = (k : Int) + 1 by omega]; rfl), rfl, by omega⟩
                          omega))))
        · simp only [E.b0, E.b1, E.b2, E.b3, E.b4, E.b5, E.b6, E.b7, E.b8, E.b9, E.b10, E.b11, E.b12, E.b13, E.b14, E.b15, E.b16, E.b17, E.b18, E.b19, E.b20, reduceCtorEq] at hc
          all_goals (
            refine E.CW.exit ?_
            refine E.then_x ?_
            refine E.then_x ?_
            refine E.blk_eq ?_
            refine E.then_n ?_
            refine E.CW.seq ?_
            refine E.CW.region ?_
            refine E.OW.pure rfl rfl rfl (E.PV.move rfl rfl) ?_
            refine E.OW.pure rfl rfl rfl (E.PV.move rfl rfl) ?_
            all_goals (refine E.OW.put 130 (.bool true) (v := .bool true) rfl rfl ?_)
            all_goals (refine E.OW.pure rfl rfl rfl (E.PV.move rfl rfl) ?_)
            all_goals (refine E.OW.pure rfl rfl rfl (E.PV.move rfl rfl) ?_)
            all_goals (refine E.OW.pure rfl rfl rfl (E.PV.len Try.underlying22 rfl rfl) ?_)
            all_goals (refine E.OW.pure rfl rfl rfl (E.PV.eql rfl rfl rfl) ?_)
            all_goals (refine E.OW.pure rfl rfl rfl (E.PV.pick_t rfl rfl rfl) ?_)
            all_goals (refine E.OW.pure rfl rfl rfl (E.PV.move rfl rfl) ?_)
            all_goals (refine E.OW.put 136 (.bool true) rfl (congrArg Value.bool ?_) ?_; (focus ((simp only [E.b0, E.b1, E.b2, E.b3, E.b4, E.b5, E.b6, E.b7, E.b8, E.b9, E.b10, E.b11, E.b12, E.b13, E.b14, E.b15, E.b16, E.b17, E.b18, E.b19, E.b20]; omega))))
            all_goals (refine E.OW.pure rfl rfl rfl (E.PV.move rfl rfl) ?_)
            all_goals ((refine E.OW.call nm21 rfl rfl rfl rfl rfl rfl _ (fun w hw => CheckSlices_ok _ _ _ w ?_ ?_) ?_; (focus (assumption)); (focus (refine hw.rd ?_; assumption)); rintro _ _ ⟨rfl, rfl⟩))
            all_goals (refine E.OW.pure rfl rfl rfl (E.PV.eql rfl rfl rfl) ?_)
            all_goals (refine E.OW.pure rfl rfl rfl (E.PV.pick_t rfl rfl rfl) ?_)
            all_goals (refine E.OW.pure rfl rfl rfl (E.PV.assign rfl rfl) ?_)
            all_goals (
              refine E.OW.nil ?_
              refine E.then_n ?_
              refine E.CW.ret ?_
              refine E.KR.one [] Try.results12 rfl rfl ?_
              exact ⟨by first | rfl | (simp; done) | (simp; omega), rfl⟩)))
end Go.Proofs.Ytbofflmmgokkhaa
