/- Walks (printed by gen.py). -/
import Derived.Test.YtbofflmmgokkhaaG6
import Derived.Test.YtbofflmmgokkhaaFlO
namespace Go.Proofs.Ytbofflmmgokkhaa
open Go Go.RowKit
set_option linter.unusedSimpArgs false
set_option linter.unusedVariables false

set_option maxRecDepth 100000 in
theorem FloorDistance_ok (a b p q r : Int) (w0 : World) :
    Calls Try.prog 16 #[.int .i64 a, .int .i64 b, .int .i64 p, .int .i64 q, .int .i64 r] w0 (E.Post w0 (E.Old w0) fun v Hn => v = .bool true ∧ Hn = []) := by
  refine E.calls_of (vs := [.int .i64 a, .int .i64 b, .int .i64 p, .int .i64 q, .int .i64 r]) (H := []) Try.func16 Try.ntmps16 rfl rfl (E.HA.start w0) ?_
  refine E.CW.seq ?_
  refine E.CW.region ?_
  refine E.OW.pure rfl rfl rfl (E.PV.assign rfl rfl) ?_
  refine E.OW.nil ?_
  refine E.then_n ?_
  refine E.CW.seq ?_
  refine E.CW.region ?_
  (refine E.OW.call nm54 rfl rfl rfl rfl rfl rfl _ (fun w hw => alive_ok w) ?_; rintro _ _ ⟨rfl, rfl⟩)
  refine E.OW.pure rfl rfl rfl (E.PV.assign rfl rfl) ?_
  refine E.OW.nil ?_
  refine E.then_n ?_
  refine E.CW.seq ?_
  refine E.CW.region ?_
  refine E.OW.pure rfl rfl rfl (E.PV.move rfl rfl) ?_
  refine E.OW.pure rfl rfl rfl (E.PV.move rfl rfl) ?_
  refine E.OW.pure rfl rfl rfl (E.PV.move rfl rfl) ?_
  refine E.OW.pure rfl rfl rfl (E.PV.move rfl rfl) ?_
  (refine E.OW.call nm37 rfl rfl rfl rfl rfl rfl _ (fun w hw => Distance_ok _ _ _ _ w) ?_; rintro _ _ ⟨rfl, rfl⟩)
  refine E.OW.pure rfl rfl rfl (E.PV.move rfl rfl) ?_
  refine E.OW.pure rfl rfl rfl (E.PV.extract rfl rfl rfl) ?_
  refine E.OW.pure rfl rfl rfl (E.PV.extract rfl rfl rfl) ?_
  refine E.OW.pure rfl rfl rfl (E.PV.assign rfl rfl) ?_
  refine E.OW.pure rfl rfl rfl (E.PV.assign rfl rfl) ?_
  refine E.OW.nil ?_
  refine E.then_n ?_
  refine E.CW.seq ?_
  refine E.CW.region ?_
  refine E.OW.pure rfl rfl rfl (E.PV.move rfl rfl) ?_
  refine E.OW.pure rfl rfl rfl (E.PV.move rfl rfl) ?_
  refine E.OW.pure rfl rfl rfl (E.PV.move rfl rfl) ?_
  refine E.OW.pure rfl rfl rfl (E.PV.move rfl rfl) ?_
  (refine E.OW.call nm35 rfl rfl rfl rfl rfl rfl _ (fun w hw => Adjacent_ok _ _ _ _ w) ?_; rintro _ _ ⟨rfl, rfl⟩)
  refine E.OW.pure rfl rfl rfl (E.PV.move rfl rfl) ?_
  refine E.OW.pure rfl rfl rfl (E.PV.extract rfl rfl rfl) ?_
  refine E.OW.pure rfl rfl rfl (E.PV.extract rfl rfl rfl) ?_
  refine E.OW.pure rfl rfl rfl (E.PV.assign rfl rfl) ?_
  refine E.OW.pure rfl rfl rfl (E.PV.assign rfl rfl) ?_
  refine E.OW.nil ?_
  refine E.then_n ?_
  refine E.CW.seq ?_
  refine E.CW.seq ?_
  refine E.CW.region ?_
  refine E.OW.pure rfl rfl rfl (E.PV.move rfl rfl) ?_
  refine E.OW.pure rfl rfl rfl (E.PV.move rfl rfl) ?_
  refine E.OW.pure rfl rfl rfl (E.PV.move rfl rfl) ?_
  (refine E.OW.call nm59 rfl rfl rfl rfl rfl rfl _ (fun w hw => rOn_ok _ _ _ w) ?_; rintro _ _ ⟨rfl, rfl⟩)
  refine E.OW.pure rfl rfl rfl (E.PV.not rfl rfl) ?_
  refine E.OW.pure rfl rfl rfl (E.PV.move rfl rfl) ?_
  all_goals (refine E.OW.split 48 rfl (fun hc => ?_) (fun hc => ?_) <;> (try simp only [E.b0, E.b1, E.b2, E.b3, E.b4, E.b5, E.b6, E.b7, E.b8, E.b9, E.b10, E.b11, E.b12, E.b13, E.b14, E.b15, E.b16, E.b17, E.b18, E.b19, E.b20, reduceCtorEq] at hc) <;> (try (exfalso; first | assumption | contradiction | omega)))
  all_goals (first | (refine E.OW.off rfl rfl rfl ?_) | (refine E.OW.pure rfl rfl rfl (E.PV.move rfl rfl) ?_))
  all_goals (first | (refine E.OW.off rfl rfl rfl ?_) | (refine E.OW.pure rfl rfl rfl (E.PV.move rfl rfl) ?_))
  all_goals (first | (refine E.OW.off rfl rfl rfl ?_) | (refine E.OW.pure rfl rfl rfl (E.PV.move rfl rfl) ?_))
  all_goals (first | (refine E.OW.off rfl rfl rfl ?_) | ((refine E.OW.call nm59 rfl rfl rfl rfl rfl rfl _ (fun w hw => rOn_ok _ _ _ w) ?_; rintro _ _ ⟨rfl, rfl⟩)))
  all_goals (first | (refine E.OW.off rfl rfl rfl ?_) | (refine E.OW.pure rfl rfl rfl (E.PV.not rfl rfl) ?_))
  all_goals (first | (refine E.OW.pure rfl rfl rfl (E.PV.pick_t rfl rfl rfl) ?_) | (refine E.OW.pure rfl rfl rfl (E.PV.pick_f rfl rfl rfl) ?_))
  all_goals (
    refine E.OW.nil ?_
    refine E.then_n ?_
    refine E.CW.cond rfl (fun hc => ?_) (fun hc => ?_)
    · simp only [E.b0, E.b1, E.b2, E.b3, E.b4, E.b5, E.b6, E.b7, E.b8, E.b9, E.b10, E.b11, E.b12, E.b13, E.b14, E.b15, E.b16, E.b17, E.b18, E.b19, E.b20, reduceCtorEq] at hc
      all_goals (
        refine E.CW.seq ?_
        have hdb : Fl.distance a b p q = (0, 2) := by simp [Fl.distance, *]
        refine E.CW.put 13 (.int .i64 2) rfl (by rw [hdb]; rfl) ?_
        refine E.CW.put 15 (.int .i64 2) rfl (by unfold Fl.adjacent; rw [hdb]; rfl) ?_
        refine E.CW.region ?_
        refine E.OW.pure rfl rfl rfl (E.PV.move rfl rfl) ?_
        refine E.OW.pure rfl rfl rfl (E.PV.move rfl rfl) ?_
        all_goals (refine E.OW.put 56 (.bool true) (v := .bool true) rfl rfl ?_)
        all_goals (refine E.OW.pure rfl rfl rfl (E.PV.move rfl rfl) ?_)
        all_goals (refine E.OW.pure rfl rfl rfl (E.PV.eql rfl rfl rfl) ?_)
        all_goals (refine E.OW.pure rfl rfl rfl (E.PV.pick_t rfl rfl rfl) ?_)
        all_goals (refine E.OW.pure rfl rfl rfl (E.PV.move rfl rfl) ?_)
        all_goals (refine E.OW.put 60 (.bool true) (v := .bool true) rfl rfl ?_)
        all_goals (refine E.OW.pure rfl rfl rfl (E.PV.move rfl rfl) ?_)
        all_goals (refine E.OW.pure rfl rfl rfl (E.PV.eql rfl rfl rfl) ?_)
        all_goals (refine E.OW.pure rfl rfl rfl (E.PV.pick_t rfl rfl rfl) ?_)
        all_goals (refine E.OW.pure rfl rfl rfl (E.PV.assign rfl rfl) ?_)
        all_goals (
          refine E.OW.nil ?_
          refine E.then_n ?_
          refine E.CW.ret ?_
          refine E.then_ret ?_
          refine E.KR.one [] Try.results16 rfl rfl ?_
          exact ⟨by first | rfl | (simp; done) | (simp [*]; done) | (simp; omega), rfl⟩))
    · first | ((cases hc; done)) | (simp only [E.b0, E.b1, E.b2, E.b3, E.b4, E.b5, E.b6, E.b7, E.b8, E.b9, E.b10, E.b11, E.b12, E.b13, E.b14, E.b15, E.b16, E.b17, E.b18, E.b19, E.b20, reduceCtorEq] at hc)
      all_goals (
        refine E.CW.skip ?_
        refine E.then_n ?_
        refine E.CW.seq ?_
        refine E.CW.region ?_
        refine E.OW.pure rfl rfl rfl (E.PV.move rfl rfl) ?_
        refine E.OW.pure rfl rfl rfl (E.PV.move rfl rfl) ?_
        refine E.OW.pure rfl rfl rfl (E.PV.move rfl rfl) ?_
        refine E.OW.pure rfl rfl rfl (E.PV.move rfl rfl) ?_
        (refine E.OW.call nm37 rfl rfl rfl rfl rfl rfl _ (fun w hw => Distance_ok _ _ _ _ w) ?_; rintro _ _ ⟨rfl, rfl⟩)
        refine E.OW.pure rfl rfl rfl (E.PV.move rfl rfl) ?_
        refine E.OW.pure rfl rfl rfl (E.PV.extract rfl rfl rfl) ?_
        refine E.OW.pure rfl rfl rfl (E.PV.extract rfl rfl rfl) ?_
        refine E.OW.pure rfl rfl rfl (E.PV.assign rfl rfl) ?_
        refine E.OW.pure rfl rfl rfl (E.PV.assign rfl rfl) ?_
        refine E.OW.nil ?_
        refine E.then_n ?_
        refine E.CW.seq ?_
        refine E.CW.seq ?_
        have hp : Fl.has a b p = true := by assumption
        have hq : Fl.has a b q = true := by assumption
        have hp0 := Fl.has_iff.1 hp
        have h14 := Fl.dist_le14 hp hq
        have hnn := Fl.dist_nn a p q
        have hz : decide (Fl.dist a p q = 0) = decide (p = q) := decide_eq_decide.2 Fl.dist_zero
        have e1 : Fl.distance a b (p) (q) = (Fl.dist a (p) (q), 0) := Fl.distance_ok (by assumption) (by assumption)
        have e2 : Fl.distance a b (q) (p) = (Fl.dist a (q) (p), 0) := Fl.distance_ok (by assumption) (by assumption)
        refine E.CW.put 12 (.int .i64 (Fl.dist a p q)) rfl (by rw [e1]; rfl) ?_
        refine E.CW.put 13 (.int .i64 0) rfl (by rw [e1]; rfl) ?_
        refine E.CW.put 14 (.bool (decide (Fl.dist a p q = 1))) rfl (by unfold Fl.adjacent; rw [e1]; rfl) ?_
        refine E.CW.put 15 (.int .i64 0) rfl (by unfold Fl.adjacent; rw [e1]; rfl) ?_
        refine E.CW.put 16 (.int .i64 (Fl.dist a p q)) rfl (by rw [Fl.dist_comm a p q, e2]; rfl) ?_
        refine E.CW.put 17 (.int .i64 0) rfl (by rw [e2]; rfl) ?_
        refine E.CW.region ?_
        refine E.OW.pure rfl rfl rfl (E.PV.move rfl rfl) ?_
        refine E.OW.pure rfl rfl rfl (E.PV.neq rfl rfl rfl) ?_
        refine E.OW.pure rfl rfl rfl (E.PV.move rfl rfl) ?_
        all_goals (refine E.OW.put 74 (.bool false) (v := .bool false) rfl rfl ?_)
        all_goals (refine E.OW.pure rfl rfl rfl (E.PV.move rfl rfl) ?_)
        all_goals (refine E.OW.pure rfl rfl rfl (E.PV.neq rfl rfl rfl) ?_)
        all_goals (refine E.OW.pure rfl rfl rfl (E.PV.pick_f rfl rfl rfl) ?_)
        all_goals (refine E.OW.pure rfl rfl rfl (E.PV.move rfl rfl) ?_)
        all_goals (refine E.OW.put 78 (.bool false) (v := .bool false) rfl rfl ?_)
        all_goals (refine E.OW.pure rfl rfl rfl (E.PV.move rfl rfl) ?_)
        all_goals (refine E.OW.pure rfl rfl rfl (E.PV.move rfl rfl) ?_)
        all_goals (refine E.OW.pure rfl rfl rfl (E.PV.move rfl rfl) ?_)
        all_goals ((refine E.OW.call nm56 rfl rfl rfl rfl rfl rfl _ (fun w hw => is_ok _ _ _ w) ?_; rintro _ _ ⟨rfl, rfl⟩))
        all_goals (refine E.OW.pure rfl rfl rfl (E.PV.not rfl rfl) ?_)
        all_goals (refine E.OW.pure rfl rfl rfl (E.PV.pick_f rfl rfl rfl) ?_)
        all_goals (refine E.OW.pure rfl rfl rfl (E.PV.move rfl rfl) ?_)
        all_goals (refine E.OW.put 85 (.bool false) rfl (congrArg Value.bool ?_) ?_; (focus ((simp [*]; done))))
        all_goals (refine E.OW.pure rfl rfl rfl (E.PV.move rfl rfl) ?_)
        all_goals (refine E.OW.pure rfl rfl rfl (E.PV.eql rfl rfl rfl) ?_)
        all_goals (refine E.OW.pure rfl rfl rfl (E.PV.move rfl rfl) ?_)
        all_goals (refine E.OW.pure rfl rfl rfl (E.PV.move rfl rfl) ?_)
        all_goals (refine E.OW.pure rfl rfl rfl (E.PV.eql rfl rfl rfl) ?_)
        all_goals (refine E.OW.pure rfl rfl rfl (E.PV.bne Try.underlying4 rfl rfl rfl) ?_)
        all_goals (refine E.OW.pure rfl rfl rfl (E.PV.pick_f rfl rfl rfl) ?_)
        all_goals (refine E.OW.pure rfl rfl rfl (E.PV.move rfl rfl) ?_)
        all_goals (refine E.OW.put 93 (.bool false) rfl (congrArg Value.bool ?_) ?_; (focus ((simp only [E.b0, E.b1, E.b2, E.b3, E.b4, E.b5, E.b6, E.b7, E.b8, E.b9, E.b10, E.b11, E.b12, E.b13, E.b14, E.b15, E.b16, E.b17, E.b18, E.b19, E.b20]; omega))))
        all_goals (refine E.OW.pure rfl rfl rfl (E.PV.move rfl rfl) ?_)
        all_goals (refine E.OW.pure rfl rfl rfl (E.PV.move rfl rfl) ?_)
        all_goals (refine E.OW.pure rfl rfl rfl (E.PV.eql rfl rfl rfl) ?_)
        all_goals (refine E.OW.pure rfl rfl rfl (E.PV.bne Try.underlying4 rfl rfl rfl) ?_)
        all_goals (refine E.OW.pure rfl rfl rfl (E.PV.pick_f rfl rfl rfl) ?_)
        all_goals (
          refine E.OW.nil ?_
          refine E.then_n ?_
          refine E.CW.cond rfl (fun hc => ?_) (fun hc => ?_)
          · simp only [E.b0, E.b1, E.b2, E.b3, E.b4, E.b5, E.b6, E.b7, E.b8, E.b9, E.b10, E.b11, E.b12, E.b13, E.b14, E.b15, E.b16, E.b17, E.b18, E.b19, E.b20, reduceCtorEq] at hc
            all_goals (exfalso; contradiction)
          · simp only [E.b0, E.b1, E.b2, E.b3, E.b4, E.b5, E.b6, E.b7, E.b8, E.b9, E.b10, E.b11, E.b12, E.b13, E.b14, E.b15, E.b16, E.b17, E.b18, E.b19, E.b20, reduceCtorEq] at hc
            all_goals (
              refine E.CW.skip ?_
              refine E.then_n ?_
              refine E.CW.seq ?_
              refine E.CW.region ?_
              refine E.OW.pure rfl rfl rfl (E.PV.move rfl rfl) ?_
              refine E.OW.pure rfl rfl rfl (E.PV.eql rfl rfl rfl) ?_
              refine E.OW.pure rfl rfl rfl (E.PV.assign rfl rfl) ?_
              refine E.OW.nil ?_
              refine E.then_n ?_
              refine E.CW.seq ?_
              refine E.CW.seq ?_
              refine E.CW.region ?_
              refine E.OW.pure rfl rfl rfl (E.PV.assign rfl rfl) ?_
              refine E.OW.nil ?_
              refine E.then_n ?_
              refine E.CW.block ?_
              refine E.CW.loopk [0, 1, 2, 3, 4, 11, 12] 0 rfl rfl (fun mm mods Hm => ∃ k : Nat, ∃ cl : Bool, mm = 4 - k ∧ mods = [(19, .int .i64 k), (18, .bool cl)] ∧ Hm = [] ∧ (k ≤ 4 ∧ ((Fl.dist a p q = 0 ∨ ∃ j : Nat, j < k ∧ 0 ≤ Fl.mv a b p j ∧ Fl.dist a (Fl.mv a b p j) q = Fl.dist a p q - 1) → cl = true))) (4) ?_ ?_
              · exact ⟨[(19, _), (18, _)], (by repeat (first | exact E.cov_nil | refine ⟨rfl, ?_⟩)), 0, _, rfl, rfl, rfl, by omega, fun hx => by (rcases hx with hx | ⟨j, hj, _⟩; exact decide_eq_true hx; omega)⟩
              · rintro _ _ _ ⟨k, cl, rfl, rfl, rfl, hk, hI⟩
                refine E.CW.seq ?_
                refine E.CW.seq ?_
                refine E.CW.region ?_
                refine E.OW.pure rfl rfl rfl (E.PV.move rfl rfl) ?_
                refine E.OW.pure rfl rfl rfl (E.PV.lss rfl rfl rfl) ?_
                refine E.OW.nil ?_
                refine E.then_n ?_
                refine E.CW.cond rfl (fun hc => ?_) (fun hc => ?_)
                · simp only [E.b0, E.b1, E.b2, E.b3, E.b4, E.b5, E.b6, E.b7, E.b8, E.b9, E.b10, E.b11, E.b12, E.b13, E.b14, E.b15, E.b16, E.b17, E.b18, E.b19, E.b20, reduceCtorEq] at hc
                  all_goals (
                    refine E.CW.skip ?_
                    refine E.then_n ?_
                    refine E.CW.seq ?_
                    refine E.CW.block ?_
                    refine E.CW.seq ?_
                    refine E.CW.region ?_
                    refine E.OW.pure rfl rfl rfl (E.PV.move rfl rfl) ?_
                    refine E.OW.pure rfl rfl rfl (E.PV.move rfl rfl) ?_
                    refine E.OW.pure rfl rfl rfl (E.PV.move rfl rfl) ?_
                    refine E.OW.pure rfl rfl rfl (E.PV.move rfl rfl) ?_
                    (refine E.OW.call nm33 rfl rfl rfl rfl rfl rfl _ (fun w hw => Step_ok _ _ _ _ w) ?_; rintro _ _ ⟨rfl, rfl⟩)
                    refine E.OW.pure rfl rfl rfl (E.PV.move rfl rfl) ?_
                    refine E.OW.pure rfl rfl rfl (E.PV.extract rfl rfl rfl) ?_
                    refine E.OW.pure rfl rfl rfl (E.PV.extract rfl rfl rfl) ?_
                    refine E.OW.pure rfl rfl rfl (E.PV.assign rfl rfl) ?_
                    refine E.OW.pure rfl rfl rfl (E.PV.assign rfl rfl) ?_
                    refine E.OW.nil ?_
                    refine E.then_n ?_
                    refine E.CW.seq ?_
                    refine E.CW.seq ?_
                    rcases Fl.step_two hp (d := (k : Int)) (by omega) with ⟨h0, hs⟩ | ⟨h0, hs⟩ <;> refine E.CW.put 20 _ rfl (by rw [hs]) ?_ <;> refine E.CW.put 21 _ rfl (by rw [hs]) ?_
                    all_goals (
                      refine E.CW.region ?_
                      refine E.OW.pure rfl rfl rfl (E.PV.move rfl rfl) ?_
                      refine E.OW.pure rfl rfl rfl (E.PV.eql rfl rfl rfl) ?_
                      refine E.OW.nil ?_
                      refine E.then_n ?_
                      refine E.CW.cond rfl (fun hc => ?_) (fun hc => ?_)
                      · first | ((cases hc; done)) | (simp only [E.b0, E.b1, E.b2, E.b3, E.b4, E.b5, E.b6, E.b7, E.b8, E.b9, E.b10, E.b11, E.b12, E.b13, E.b14, E.b15, E.b16, E.b17, E.b18, E.b19, E.b20, reduceCtorEq] at hc)
                        all_goals (
                          refine E.CW.exit ?_
                          refine E.then_x ?_
                          refine E.blk_eq ?_
                          refine E.then_n ?_
                          refine E.CW.region ?_
                          refine E.OW.pure rfl rfl rfl (E.PV.move rfl rfl) ?_
                          refine E.OW.pure rfl rfl rfl (E.PV.add_i64 rfl rfl rfl ?_) ?_; (focus (omega))
                          refine E.OW.pure rfl rfl rfl (E.PV.assign rfl rfl) ?_
                          refine E.OW.nil ?_
                          refine E.then_nf ?_
                          refine ⟨_, [(19, _), (18, _)], [], _, ?_, by repeat (first | exact E.cov_nil | refine ⟨rfl, ?_⟩), rfl, k + 1, cl, rfl, rfl, rfl, by omega, Fl.ex_same hI (fun hx => by omega)⟩
                          omega)
                      · first | ((cases hc; done)) | (simp only [E.b0, E.b1, E.b2, E.b3, E.b4, E.b5, E.b6, E.b7, E.b8, E.b9, E.b10, E.b11, E.b12, E.b13, E.b14, E.b15, E.b16, E.b17, E.b18, E.b19, E.b20, reduceCtorEq] at hc)
                        all_goals (
                          refine E.CW.skip ?_
                          refine E.then_n ?_
                          refine E.CW.seq ?_
                          refine E.CW.region ?_
                          refine E.OW.pure rfl rfl rfl (E.PV.move rfl rfl) ?_
                          refine E.OW.pure rfl rfl rfl (E.PV.move rfl rfl) ?_
                          refine E.OW.pure rfl rfl rfl (E.PV.move rfl rfl) ?_
                          refine E.OW.pure rfl rfl rfl (E.PV.move rfl rfl) ?_
                          (refine E.OW.call nm37 rfl rfl rfl rfl rfl rfl _ (fun w hw => Distance_ok _ _ _ _ w) ?_; rintro _ _ ⟨rfl, rfl⟩)
                          refine E.OW.pure rfl rfl rfl (E.PV.move rfl rfl) ?_
                          refine E.OW.pure rfl rfl rfl (E.PV.extract rfl rfl rfl) ?_
                          refine E.OW.pure rfl rfl rfl (E.PV.extract rfl rfl rfl) ?_
                          refine E.OW.pure rfl rfl rfl (E.PV.assign rfl rfl) ?_
                          refine E.OW.pure rfl rfl rfl (E.PV.assign rfl rfl) ?_
                          refine E.OW.nil ?_
                          refine E.then_n ?_
                          refine E.CW.seq ?_
                          refine E.CW.seq ?_
                          have hm := Fl.mv_has hp h0
                          have hdm := Fl.dist_mv (q := q) (d := k) hp0.1 (Fl.has_iff.1 hm).2 (by omega) rfl
                          have e3 : Fl.distance a b (Fl.mv a b p k) (q) = (Fl.dist a (Fl.mv a b p k) (q), 0) := Fl.distance_ok (by assumption) (by assumption)
                          refine E.CW.put 22 (.int .i64 (Fl.dist a (Fl.mv a b p k) q)) rfl (by rw [e3]; rfl) ?_
                          refine E.CW.put 23 (.int .i64 0) rfl (by rw [e3]; rfl) ?_
                          refine E.CW.region ?_
                          refine E.OW.pure rfl rfl rfl (E.PV.move rfl rfl) ?_
                          refine E.OW.pure rfl rfl rfl (E.PV.neq rfl rfl rfl) ?_
                          refine E.OW.pure rfl rfl rfl (E.PV.move rfl rfl) ?_
                          all_goals (refine E.OW.put 125 (.bool false) (v := .bool false) rfl rfl ?_)
                          all_goals (refine E.OW.pure rfl rfl rfl (E.PV.move rfl rfl) ?_)
                          all_goals (refine E.OW.pure rfl rfl rfl (E.PV.neq rfl rfl rfl) ?_)
                          all_goals (refine E.OW.pure rfl rfl rfl (E.PV.pick_f rfl rfl rfl) ?_)
                          all_goals (refine E.OW.pure rfl rfl rfl (E.PV.move rfl rfl) ?_)
                          all_goals (refine E.OW.put 129 (.bool false) (v := .bool false) rfl rfl ?_)
                          all_goals (refine E.OW.pure rfl rfl rfl (E.PV.move rfl rfl) ?_)
                          all_goals (refine E.OW.pure rfl rfl rfl (E.PV.move rfl rfl) ?_)
                          all_goals (refine E.OW.pure rfl rfl rfl (E.PV.add_i64 rfl rfl rfl ?_) ?_; (focus (omega)))
                          all_goals (refine E.OW.pure rfl rfl rfl (E.PV.neq rfl rfl rfl) ?_)
                          all_goals (refine E.OW.pure rfl rfl rfl (E.PV.move rfl rfl) ?_)
                          all_goals (refine E.OW.split 134 rfl (fun hc => ?_) (fun hc => ?_) <;> (try simp only [E.b0, E.b1, E.b2, E.b3, E.b4, E.b5, E.b6, E.b7, E.b8, E.b9, E.b10, E.b11, E.b12, E.b13, E.b14, E.b15, E.b16, E.b17, E.b18, E.b19, E.b20, reduceCtorEq] at hc) <;> (try (exfalso; first | assumption | contradiction | omega)))
                          all_goals (first | (refine E.OW.off rfl rfl rfl ?_) | (refine E.OW.pure rfl rfl rfl (E.PV.move rfl rfl) ?_))
                          all_goals (first | (refine E.OW.off rfl rfl rfl ?_) | (refine E.OW.pure rfl rfl rfl (E.PV.move rfl rfl) ?_))
                          all_goals (first | (refine E.OW.off rfl rfl rfl ?_) | (refine E.OW.pure rfl rfl rfl (E.PV.sub_i64 rfl rfl rfl ?_) ?_; (focus (omega))))
                          all_goals (first | (refine E.OW.off rfl rfl rfl ?_) | (refine E.OW.pure rfl rfl rfl (E.PV.neq rfl rfl rfl) ?_))
                          all_goals (first | (refine E.OW.pure rfl rfl rfl (E.PV.pick_t rfl rfl rfl) ?_) | (refine E.OW.pure rfl rfl rfl (E.PV.pick_f rfl rfl rfl) ?_))
                          all_goals (refine E.OW.pure rfl rfl rfl (E.PV.pick_f rfl rfl rfl) ?_)
                          all_goals (
                            refine E.OW.nil ?_
                            refine E.then_n ?_
                            refine E.CW.cond rfl (fun hc => ?_) (fun hc => ?_)
                            · first | ((cases hc; done)) | (simp only [E.b0, E.b1, E.b2, E.b3, E.b4, E.b5, E.b6, E.b7, E.b8, E.b9, E.b10, E.b11, E.b12, E.b13, E.b14, E.b15, E.b16, E.b17, E.b18, E.b19, E.b20, reduceCtorEq] at hc)
                              all_goals (exfalso; omega)
                            · simp only [E.b0, E.b1, E.b2, E.b3, E.b4, E.b5, E.b6, E.b7, E.b8, E.b9, E.b10, E.b11, E.b12, E.b13, E.b14, E.b15, E.b16, E.b17, E.b18, E.b19, E.b20, reduceCtorEq] at hc
                              all_goals (
                                refine E.CW.skip ?_
                                refine E.then_n ?_
                                refine E.CW.region ?_
                                refine E.OW.pure rfl rfl rfl (E.PV.move rfl rfl) ?_
                                refine E.OW.pure rfl rfl rfl (E.PV.move rfl rfl) ?_
                                all_goals (refine E.OW.split 142 rfl (fun hc => ?_) (fun hc => ?_) <;> (try simp only [E.b0, E.b1, E.b2, E.b3, E.b4, E.b5, E.b6, E.b7, E.b8, E.b9, E.b10, E.b11, E.b12, E.b13, E.b14, E.b15, E.b16, E.b17, E.b18, E.b19, E.b20, reduceCtorEq] at hc) <;> (try (exfalso; first | assumption | contradiction | omega)))
                                all_goals (first | (refine E.OW.off rfl rfl rfl ?_) | (refine E.OW.pure rfl rfl rfl (E.PV.move rfl rfl) ?_))
                                all_goals (first | (refine E.OW.off rfl rfl rfl ?_) | (refine E.OW.pure rfl rfl rfl (E.PV.move rfl rfl) ?_))
                                all_goals (first | (refine E.OW.off rfl rfl rfl ?_) | (refine E.OW.pure rfl rfl rfl (E.PV.sub_i64 rfl rfl rfl ?_) ?_; (focus (omega))))
                                all_goals (first | (refine E.OW.off rfl rfl rfl ?_) | (refine E.OW.pure rfl rfl rfl (E.PV.eql rfl rfl rfl) ?_))
                                all_goals (first | (refine E.OW.pure rfl rfl rfl (E.PV.pick_t rfl rfl rfl) ?_) | (refine E.OW.pure rfl rfl rfl (E.PV.pick_f rfl rfl rfl) ?_))
                                all_goals (refine E.OW.pure rfl rfl rfl (E.PV.assign rfl rfl) ?_)
                                all_goals (
                                  refine E.OW.nil ?_
                                  refine E.blk_n ?_
                                  refine E.then_n ?_
                                  refine E.CW.region ?_
                                  refine E.OW.pure rfl rfl rfl (E.PV.move rfl rfl) ?_
                                  refine E.OW.pure rfl rfl rfl (E.PV.add_i64 rfl rfl rfl ?_) ?_; (focus (omega))
                                  refine E.OW.pure rfl rfl rfl (E.PV.assign rfl rfl) ?_
                                  refine E.OW.nil ?_
                                  refine E.then_nf ?_
                                  refine ⟨_, [(19, _), (18, _)], [], _, ?_, by repeat (first | exact E.cov_nil | refine ⟨rfl, ?_⟩), rfl, k + 1, _, rfl, rfl, rfl, by omega, fun hx => by first | rfl | exact Fl.ex_succ hI (by assumption) (fun hx => decide_eq_true hx.2) hx⟩
                                  omega))))))
                · simp only [E.b0, E.b1, E.b2, E.b3, E.b4, E.b5, E.b6, E.b7, E.b8, E.b9, E.b10, E.b11, E.b12, E.b13, E.b14, E.b15, E.b16, E.b17, E.b18, E.b19, E.b20, reduceCtorEq] at hc
                  all_goals (
                    refine E.CW.exit ?_
                    refine E.then_x ?_
                    refine E.then_x ?_
                    refine E.blk_eq ?_
                    refine E.then_n ?_
                    refine E.CW.seq ?_
                    refine E.CW.seq ?_
                    have hcl : cl = true := hI (Fl.closer_all hp hq (by omega))
                    refine E.CW.put 18 (.bool true) rfl (by rw [hcl]) ?_
                    refine E.CW.region ?_
                    refine E.OW.pure rfl rfl rfl (E.PV.move rfl rfl) ?_
                    refine E.OW.pure rfl rfl rfl (E.PV.not rfl rfl) ?_
                    refine E.OW.nil ?_
                    refine E.then_n ?_
                    refine E.CW.cond rfl (fun hc => ?_) (fun hc => ?_)
                    · (cases hc; done)
                    · simp only [E.b0, E.b1, E.b2, E.b3, E.b4, E.b5, E.b6, E.b7, E.b8, E.b9, E.b10, E.b11, E.b12, E.b13, E.b14, E.b15, E.b16, E.b17, E.b18, E.b19, E.b20, reduceCtorEq] at hc
                      all_goals (
                        refine E.CW.skip ?_
                        refine E.then_n ?_
                        refine E.CW.seq ?_
                        refine E.CW.seq ?_
                        refine E.CW.region ?_
                        refine E.OW.pure rfl rfl rfl (E.PV.move rfl rfl) ?_
                        refine E.OW.pure rfl rfl rfl (E.PV.move rfl rfl) ?_
                        refine E.OW.pure rfl rfl rfl (E.PV.move rfl rfl) ?_
                        (refine E.OW.call nm59 rfl rfl rfl rfl rfl rfl _ (fun w hw => rOn_ok _ _ _ w) ?_; rintro _ _ ⟨rfl, rfl⟩)
                        refine E.OW.pure rfl rfl rfl (E.PV.not rfl rfl) ?_
                        refine E.OW.nil ?_
                        refine E.then_n ?_
                        refine E.CW.cond rfl (fun hc => ?_) (fun hc => ?_)
                        · simp only [E.b0, E.b1, E.b2, E.b3, E.b4, E.b5, E.b6, E.b7, E.b8, E.b9, E.b10, E.b11, E.b12, E.b13, E.b14, E.b15, E.b16, E.b17, E.b18, E.b19, E.b20, reduceCtorEq] at hc
                          all_goals (
                            refine E.CW.seq ?_
                            refine E.CW.region ?_
                            refine E.OW.pure rfl rfl rfl (E.PV.move rfl rfl) ?_
                            refine E.OW.pure rfl rfl rfl (E.PV.assign rfl rfl) ?_
                            refine E.OW.nil ?_
                            refine E.then_n ?_
                            refine E.CW.ret ?_
                            refine E.then_ret ?_
                            refine E.KR.one [] Try.results16 rfl rfl ?_
                            exact ⟨by first | rfl | (simp; done) | (simp [*]; done) | (simp; omega), rfl⟩)
                        · simp only [E.b0, E.b1, E.b2, E.b3, E.b4, E.b5, E.b6, E.b7, E.b8, E.b9, E.b10, E.b11, E.b12, E.b13, E.b14, E.b15, E.b16, E.b17, E.b18, E.b19, E.b20, reduceCtorEq] at hc
                          all_goals (
                            refine E.CW.skip ?_
                            refine E.then_n ?_
                            refine E.CW.seq ?_
                            refine E.CW.region ?_
                            refine E.OW.pure rfl rfl rfl (E.PV.move rfl rfl) ?_
                            refine E.OW.pure rfl rfl rfl (E.PV.move rfl rfl) ?_
                            refine E.OW.pure rfl rfl rfl (E.PV.move rfl rfl) ?_
                            refine E.OW.pure rfl rfl rfl (E.PV.move rfl rfl) ?_
                            (refine E.OW.call nm37 rfl rfl rfl rfl rfl rfl _ (fun w hw => Distance_ok _ _ _ _ w) ?_; rintro _ _ ⟨rfl, rfl⟩)
                            refine E.OW.pure rfl rfl rfl (E.PV.move rfl rfl) ?_
                            refine E.OW.pure rfl rfl rfl (E.PV.extract rfl rfl rfl) ?_
                            refine E.OW.pure rfl rfl rfl (E.PV.extract rfl rfl rfl) ?_
                            refine E.OW.pure rfl rfl rfl (E.PV.assign rfl rfl) ?_
                            refine E.OW.pure rfl rfl rfl (E.PV.assign rfl rfl) ?_
                            refine E.OW.nil ?_
                            refine E.then_n ?_
                            refine E.CW.seq ?_
                            refine E.CW.region ?_
                            refine E.OW.pure rfl rfl rfl (E.PV.move rfl rfl) ?_
                            refine E.OW.pure rfl rfl rfl (E.PV.move rfl rfl) ?_
                            refine E.OW.pure rfl rfl rfl (E.PV.move rfl rfl) ?_
                            refine E.OW.pure rfl rfl rfl (E.PV.move rfl rfl) ?_
                            (refine E.OW.call nm37 rfl rfl rfl rfl rfl rfl _ (fun w hw => Distance_ok _ _ _ _ w) ?_; rintro _ _ ⟨rfl, rfl⟩)
                            refine E.OW.pure rfl rfl rfl (E.PV.move rfl rfl) ?_
                            refine E.OW.pure rfl rfl rfl (E.PV.extract rfl rfl rfl) ?_
                            refine E.OW.pure rfl rfl rfl (E.PV.extract rfl rfl rfl) ?_
                            refine E.OW.pure rfl rfl rfl (E.PV.assign rfl rfl) ?_
                            refine E.OW.pure rfl rfl rfl (E.PV.assign rfl rfl) ?_
                            refine E.OW.nil ?_
                            refine E.then_n ?_
                            refine E.CW.seq ?_
                            have hr : Fl.has a b r = true := by assumption
                            have e4 : Fl.distance a b (q) (r) = (Fl.dist a (q) (r), 0) := Fl.distance_ok (by assumption) (by assumption)
                            have e5 : Fl.distance a b (p) (r) = (Fl.dist a (p) (r), 0) := Fl.distance_ok (by assumption) (by assumption)
                            have ht := Fl.dist_tri a p q r
                            have h15 := Fl.dist_le14 hq hr
                            have hnn2 := Fl.dist_nn a q r
                            refine E.CW.put 24 (.int .i64 (Fl.dist a q r)) rfl (by rw [e4]; rfl) ?_
                            refine E.CW.put 13 (.int .i64 0) rfl (by rw [e4]; rfl) ?_
                            refine E.CW.put 25 (.int .i64 (Fl.dist a p r)) rfl (by rw [e5]; rfl) ?_
                            refine E.CW.put 15 (.int .i64 0) rfl (by rw [e5]; rfl) ?_
                            refine E.CW.region ?_
                            refine E.OW.pure rfl rfl rfl (E.PV.move rfl rfl) ?_
                            refine E.OW.pure rfl rfl rfl (E.PV.move rfl rfl) ?_
                            all_goals (refine E.OW.put 173 (.bool true) (v := .bool true) rfl rfl ?_)
                            all_goals (refine E.OW.pure rfl rfl rfl (E.PV.move rfl rfl) ?_)
                            all_goals (refine E.OW.pure rfl rfl rfl (E.PV.eql rfl rfl rfl) ?_)
                            all_goals (refine E.OW.pure rfl rfl rfl (E.PV.pick_t rfl rfl rfl) ?_)
                            all_goals (refine E.OW.pure rfl rfl rfl (E.PV.move rfl rfl) ?_)
                            all_goals (refine E.OW.put 177 (.bool true) (v := .bool true) rfl rfl ?_)
                            all_goals (refine E.OW.pure rfl rfl rfl (E.PV.move rfl rfl) ?_)
                            all_goals (refine E.OW.pure rfl rfl rfl (E.PV.eql rfl rfl rfl) ?_)
                            all_goals (refine E.OW.pure rfl rfl rfl (E.PV.pick_t rfl rfl rfl) ?_)
                            all_goals (refine E.OW.pure rfl rfl rfl (E.PV.move rfl rfl) ?_)
                            all_goals (refine E.OW.put 181 (.bool true) (v := .bool true) rfl rfl ?_)
                            all_goals (refine E.OW.pure rfl rfl rfl (E.PV.move rfl rfl) ?_)
                            all_goals (refine E.OW.pure rfl rfl rfl (E.PV.move rfl rfl) ?_)
                            all_goals (refine E.OW.pure rfl rfl rfl (E.PV.move rfl rfl) ?_)
                            all_goals (refine E.OW.pure rfl rfl rfl (E.PV.add_i64 rfl rfl rfl ?_) ?_; (focus (omega)))
                            all_goals (refine E.OW.pure rfl rfl rfl (E.PV.leq rfl rfl rfl) ?_)
                            all_goals (refine E.OW.pure rfl rfl rfl (E.PV.pick_t rfl rfl rfl) ?_)
                            all_goals (refine E.OW.pure rfl rfl rfl (E.PV.assign rfl rfl) ?_)
                            all_goals (
                              refine E.OW.nil ?_
                              refine E.then_n ?_
                              refine E.CW.ret ?_
                              refine E.KR.one [] Try.results16 rfl rfl ?_
                              exact ⟨by first | rfl | (simp; done) | (simp [*]; done) | (simp; omega), rfl⟩))))))))
end Go.Proofs.Ytbofflmmgokkhaa
