/- Walks (printed by gen.py). -/
import Derived.Test.YtbofflmmgokkhaaG1
import Derived.Test.YtbofflmmgokkhaaFlD
namespace Go.Proofs.Ytbofflmmgokkhaa
open Go Go.RowKit
set_option linter.unusedSimpArgs false
set_option linter.unusedVariables false

set_option maxRecDepth 100000 in
theorem rAdjacent_ok (a b p q : Int) (w0 : World) :
    Calls Try.prog 36 #[.int .i64 a, .int .i64 b, .int .i64 p, .int .i64 q] w0 (E.Post w0 (E.Old w0) fun v Hn => v = .tuple #[.bool (Fl.adjacent a b p q).1, .int .i64 (Fl.adjacent a b p q).2] ∧ Hn = []) := by
  refine E.calls_of (vs := [.int .i64 a, .int .i64 b, .int .i64 p, .int .i64 q]) (H := []) Try.func36 Try.ntmps36 rfl rfl (E.HA.start w0) ?_
  refine E.CW.seq ?_
  refine E.CW.region ?_
  refine E.OW.pure rfl rfl rfl (E.PV.assign rfl rfl) ?_
  refine E.OW.pure rfl rfl rfl (E.PV.assign rfl rfl) ?_
  refine E.OW.nil ?_
  refine E.then_n ?_
  refine E.CW.seq ?_
  refine E.CW.seq ?_
  refine E.CW.region ?_
  refine E.OW.pure rfl rfl rfl (E.PV.move rfl rfl) ?_
  refine E.OW.pure rfl rfl rfl (E.PV.move rfl rfl) ?_
  refine E.OW.pure rfl rfl rfl (E.PV.move rfl rfl) ?_
  (refine E.OW.call nm59 rfl rfl rfl rfl rfl rfl _ (fun w hw => rOn_ok _ _ _ w) ?_; rintro _ _ ⟨rfl, rfl⟩)
  refine E.OW.pure rfl rfl rfl (E.PV.not rfl rfl) ?_
  refine E.OW.pure rfl rfl rfl (E.PV.move rfl rfl) ?_
  all_goals (refine E.OW.split 16 rfl (fun hc => ?_) (fun hc => ?_) <;> (try simp only [E.b0, E.b1, E.b2, E.b3, E.b4, E.b5, E.b6, E.b7, E.b8, E.b9, E.b10, E.b11, E.b12, E.b13, E.b14, E.b15, E.b16, E.b17, E.b18, E.b19, E.b20, reduceCtorEq] at hc) <;> (try (exfalso; first | assumption | contradiction | omega)))
  all_goals (first | (refine E.OW.off rfl rfl rfl ?_) | (refine E.OW.pure rfl rfl rfl (E.PV.move rfl rfl) ?_))
  all_goals (first | (refine E.OW.off rfl rfl rfl ?_) | (refine E.OW.pure rfl rfl rfl (E.PV.move rfl rfl) ?_))
  all_goals (first | (refine E.OW.off rfl rfl rfl ?_) | (refine E.OW.pure rfl rfl rfl (E.PV.move rfl rfl) ?_))
  all_goals (first | (refine E.OW.off rfl rfl rfl ?_) | ((refine E.OW.call nm59 rfl rfl rfl rfl rfl rfl _ (fun w hw => rOn_ok _ _ _ w) ?_; rintro _ _ ⟨rfl, rfl⟩)))
  all_goals (first | (refine E.OW.off rfl rfl rfl ?_) | (refine E.OW.pure rfl rfl rfl (E.PV.not rfl rfl) ?_))
  all_goals (first | (refine E.OW.pure rfl rfl rfl (E.PV.pick_t rfl rfl rfl) ?_) | (refine E.OW.pure rfl rfl rfl (E.PV.pick_f rfl rfl rfl) ?_))
  all_goals (
    refine E.OW.nil ?_
    refine E.then_n ?_
    refine E.CW.cond rfl (fun hc => ?_) (fun hc => ?_)
    · simp only [E.b0, E.b1, E.b2, E.b3, E.b4, E.b5, E.b6, E.b7, E.b8, E.b9, E.b10, E.b11, E.b12, E.b13, E.b14, E.b15, E.b16, E.b17, E.b18, E.b19, E.b20, reduceCtorEq] at hc
      all_goals (
        refine E.CW.seq ?_
        refine E.CW.region ?_
        refine E.OW.pure rfl rfl rfl (E.PV.assign rfl rfl) ?_
        refine E.OW.pure rfl rfl rfl (E.PV.assign rfl rfl) ?_
        refine E.OW.nil ?_
        refine E.then_n ?_
        refine E.CW.ret ?_
        refine E.then_ret ?_
        refine E.KR.two [] Try.results36 rfl rfl rfl ?_
        exact ⟨by simp [Fl.adjacent, Fl.distance, *], rfl⟩)
    · first | ((cases hc; done)) | (simp only [E.b0, E.b1, E.b2, E.b3, E.b4, E.b5, E.b6, E.b7, E.b8, E.b9, E.b10, E.b11, E.b12, E.b13, E.b14, E.b15, E.b16, E.b17, E.b18, E.b19, E.b20, reduceCtorEq] at hc)
      all_goals (
        refine E.CW.skip ?_
        refine E.then_n ?_
        refine E.CW.seq ?_
        refine E.CW.seq ?_
        have hp : Fl.has a b p = true := by assumption
        have hq : Fl.has a b q = true := by assumption
        have hp0 := Fl.has_iff.1 hp
        have hq0 := Fl.has_iff.1 hq
        have hp6 := Fl.has_64 hp
        have hq6 := Fl.has_64 hq
        refine E.CW.region ?_
        refine E.OW.pure rfl rfl rfl (E.PV.assign rfl rfl) ?_
        refine E.OW.nil ?_
        refine E.then_n ?_
        refine E.CW.block ?_
        refine E.CW.loopk [0, 1, 2, 3] 0 rfl rfl (fun mm mods Hm => ∃ k : Nat, mm = 4 - k ∧ mods = [(10, .int .i64 k)] ∧ Hm = [] ∧ (k ≤ 4 ∧ ∀ j : Nat, j < k → ¬ Fl.mv a b p j = q)) (4) ?_ ?_
        · exact ⟨[(10, _)], (by repeat (first | exact E.cov_nil | refine ⟨rfl, ?_⟩)), 0, rfl, rfl, rfl, by omega, fun j hj => by omega⟩
        · rintro _ _ _ ⟨k, rfl, rfl, rfl, hk, hI⟩
          refine E.CW.seq ?_
          refine E.CW.seq ?_
          refine E.CW.region ?_
          refine E.OW.pure rfl rfl rfl (E.PV.move rfl rfl) ?_
          refine E.OW.pure rfl rfl rfl (E.PV.lss rfl rfl rfl) ?_
          refine E.OW.nil ?_
          refine E.then_n ?_
          refine E.CW.cond rfl (fun hc => ?_) (fun hc => ?_)
          · simp only [E.b0, E.b1, E.b2, E.b3, E.b4, E.b5, E.b6, E.b7, E.b8, E.b9, E.b10, E.b11, E.b12, E.b13, E.b14, E.b15, E.b16, E.b17, E.b18, E.b19, E.b20, reduceCtorEq] at hc
            all_goals (
              refine E.CW.skip ?_
              refine E.then_n ?_
              refine E.CW.seq ?_
              refine E.CW.block ?_
              refine E.CW.seq ?_
              refine E.CW.region ?_
              refine E.OW.pure rfl rfl rfl (E.PV.move rfl rfl) ?_
              refine E.OW.pure rfl rfl rfl (E.PV.move rfl rfl) ?_
              refine E.OW.pure rfl rfl rfl (E.PV.move rfl rfl) ?_
              refine E.OW.pure rfl rfl rfl (E.PV.move rfl rfl) ?_
              (refine E.OW.call nm75 rfl rfl rfl rfl rfl rfl _ (fun w hw => rMove_ok _ _ _ _ hp0.1 hp0.2 (by omega) w) ?_; rintro _ _ ⟨rfl, rfl⟩)
              refine E.OW.pure rfl rfl rfl (E.PV.move rfl rfl) ?_
              refine E.OW.pure rfl rfl rfl (E.PV.eql rfl rfl rfl) ?_
              refine E.OW.nil ?_
              refine E.then_n ?_
              refine E.CW.cond rfl (fun hc => ?_) (fun hc => ?_)
              · simp only [E.b0, E.b1, E.b2, E.b3, E.b4, E.b5, E.b6, E.b7, E.b8, E.b9, E.b10, E.b11, E.b12, E.b13, E.b14, E.b15, E.b16, E.b17, E.b18, E.b19, E.b20, reduceCtorEq] at hc
                all_goals (
                  refine E.CW.seq ?_
                  refine E.CW.region ?_
                  refine E.OW.pure rfl rfl rfl (E.PV.assign rfl rfl) ?_
                  refine E.OW.pure rfl rfl rfl (E.PV.assign rfl rfl) ?_
                  refine E.OW.nil ?_
                  refine E.then_n ?_
                  refine E.CW.ret ?_
                  refine E.blk_ret ?_
                  refine E.then_ret ?_
                  refine E.then_ret ?_
                  refine E.blk_ret ?_
                  refine E.then_ret ?_
                  refine E.KR.two [] Try.results36 rfl rfl rfl ?_
                  exact ⟨by rw [Fl.adj_yes hp hq (k := k) (by omega) (by assumption)], rfl⟩)
              · simp only [E.b0, E.b1, E.b2, E.b3, E.b4, E.b5, E.b6, E.b7, E.b8, E.b9, E.b10, E.b11, E.b12, E.b13, E.b14, E.b15, E.b16, E.b17, E.b18, E.b19, E.b20, reduceCtorEq] at hc
                all_goals (
                  refine E.CW.skip ?_
                  refine E.blk_n ?_
                  refine E.then_n ?_
                  refine E.CW.region ?_
                  refine E.OW.pure rfl rfl rfl (E.PV.move rfl rfl) ?_
                  refine E.OW.pure rfl rfl rfl (E.PV.add_i64 rfl rfl rfl ?_) ?_; (focus (omega))
                  refine E.OW.pure rfl rfl rfl (E.PV.assign rfl rfl) ?_
                  refine E.OW.nil ?_
                  refine E.then_nf ?_
                  refine ⟨_, [(10, _)], [], _, ?_, by repeat (first | exact E.cov_nil | refine ⟨rfl, ?_⟩), rfl, k + 1, rfl, rfl, rfl, by omega, fun j hj => by
    rcases Nat.lt_succ_iff_lt_or_eq.1 hj with h | rfl
    · exact hI j h
    · assumption⟩
                  omega))
          · simp only [E.b0, E.b1, E.b2, E.b3, E.b4, E.b5, E.b6, E.b7, E.b8, E.b9, E.b10, E.b11, E.b12, E.b13, E.b14, E.b15, E.b16, E.b17, E.b18, E.b19, E.b20, reduceCtorEq] at hc
            all_goals (
              refine E.CW.exit ?_
              refine E.then_x ?_
              refine E.then_x ?_
              refine E.blk_eq ?_
              refine E.then_n ?_
              refine E.CW.seq ?_
              refine E.CW.region ?_
              refine E.OW.pure rfl rfl rfl (E.PV.assign rfl rfl) ?_
              refine E.OW.pure rfl rfl rfl (E.PV.assign rfl rfl) ?_
              refine E.OW.nil ?_
              refine E.then_n ?_
              refine E.CW.ret ?_
              refine E.KR.two [] Try.results36 rfl rfl rfl ?_
              exact ⟨by rw [Fl.adj_no hp hq (fun j hj => hI j (by omega))], rfl⟩)))

set_option maxRecDepth 100000 in
theorem rDistance_ok (a b p q : Int) (w0 : World) :
    Calls Try.prog 38 #[.int .i64 a, .int .i64 b, .int .i64 p, .int .i64 q] w0 (E.Post w0 (E.Old w0) fun v Hn => v = .tuple #[.int .i64 (Fl.distance a b p q).1, .int .i64 (Fl.distance a b p q).2] ∧ Hn = []) := by
  refine E.calls_of (vs := [.int .i64 a, .int .i64 b, .int .i64 p, .int .i64 q]) (H := []) Try.func38 Try.ntmps38 rfl rfl (E.HA.start w0) ?_
  refine E.CW.seq ?_
  refine E.CW.region ?_
  refine E.OW.pure rfl rfl rfl (E.PV.assign rfl rfl) ?_
  refine E.OW.pure rfl rfl rfl (E.PV.assign rfl rfl) ?_
  refine E.OW.nil ?_
  refine E.then_n ?_
  refine E.CW.seq ?_
  refine E.CW.seq ?_
  refine E.CW.region ?_
  refine E.OW.pure rfl rfl rfl (E.PV.move rfl rfl) ?_
  refine E.OW.pure rfl rfl rfl (E.PV.move rfl rfl) ?_
  refine E.OW.pure rfl rfl rfl (E.PV.move rfl rfl) ?_
  (refine E.OW.call nm59 rfl rfl rfl rfl rfl rfl _ (fun w hw => rOn_ok _ _ _ w) ?_; rintro _ _ ⟨rfl, rfl⟩)
  refine E.OW.pure rfl rfl rfl (E.PV.not rfl rfl) ?_
  refine E.OW.pure rfl rfl rfl (E.PV.move rfl rfl) ?_
  all_goals (refine E.OW.split 20 rfl (fun hc => ?_) (fun hc => ?_) <;> (try simp only [E.b0, E.b1, E.b2, E.b3, E.b4, E.b5, E.b6, E.b7, E.b8, E.b9, E.b10, E.b11, E.b12, E.b13, E.b14, E.b15, E.b16, E.b17, E.b18, E.b19, E.b20, reduceCtorEq] at hc) <;> (try (exfalso; first | assumption | contradiction | omega)))
  all_goals (first | (refine E.OW.off rfl rfl rfl ?_) | (refine E.OW.pure rfl rfl rfl (E.PV.move rfl rfl) ?_))
  all_goals (first | (refine E.OW.off rfl rfl rfl ?_) | (refine E.OW.pure rfl rfl rfl (E.PV.move rfl rfl) ?_))
  all_goals (first | (refine E.OW.off rfl rfl rfl ?_) | (refine E.OW.pure rfl rfl rfl (E.PV.move rfl rfl) ?_))
  all_goals (first | (refine E.OW.off rfl rfl rfl ?_) | ((refine E.OW.call nm59 rfl rfl rfl rfl rfl rfl _ (fun w hw => rOn_ok _ _ _ w) ?_; rintro _ _ ⟨rfl, rfl⟩)))
  all_goals (first | (refine E.OW.off rfl rfl rfl ?_) | (refine E.OW.pure rfl rfl rfl (E.PV.not rfl rfl) ?_))
  all_goals (first | (refine E.OW.pure rfl rfl rfl (E.PV.pick_t rfl rfl rfl) ?_) | (refine E.OW.pure rfl rfl rfl (E.PV.pick_f rfl rfl rfl) ?_))
  all_goals (
    refine E.OW.nil ?_
    refine E.then_n ?_
    refine E.CW.cond rfl (fun hc => ?_) (fun hc => ?_)
    · simp only [E.b0, E.b1, E.b2, E.b3, E.b4, E.b5, E.b6, E.b7, E.b8, E.b9, E.b10, E.b11, E.b12, E.b13, E.b14, E.b15, E.b16, E.b17, E.b18, E.b19, E.b20, reduceCtorEq] at hc
      all_goals (
        refine E.CW.seq ?_
        refine E.CW.region ?_
        refine E.OW.pure rfl rfl rfl (E.PV.assign rfl rfl) ?_
        refine E.OW.pure rfl rfl rfl (E.PV.assign rfl rfl) ?_
        refine E.OW.nil ?_
        refine E.then_n ?_
        refine E.CW.ret ?_
        refine E.then_ret ?_
        refine E.KR.two [] Try.results38 rfl rfl rfl ?_
        exact ⟨by simp [Fl.distance, *], rfl⟩)
    · first | ((cases hc; done)) | (simp only [E.b0, E.b1, E.b2, E.b3, E.b4, E.b5, E.b6, E.b7, E.b8, E.b9, E.b10, E.b11, E.b12, E.b13, E.b14, E.b15, E.b16, E.b17, E.b18, E.b19, E.b20, reduceCtorEq] at hc)
      all_goals (
        refine E.CW.skip ?_
        refine E.then_n ?_
        refine E.CW.seq ?_
        have hp : Fl.has a b p = true := by assumption
        have hq : Fl.has a b q = true := by assumption
        have hp0 := Fl.has_iff.1 hp
        have hq0 := Fl.has_iff.1 hq
        have hp6 := Fl.has_64 hp
        have hq6 := Fl.has_64 hq
        have h14 := Fl.dist_le14 hp hq
        have h64 := Fl.wh64 hp0.1
        have hm := Fl.mulb (a := a) (b := b) (by omega) (by omega)
        refine E.CW.region ?_
        refine E.OW.alloc (in102.zr) rfl rfl rfl rfl (cs := E.bools 64 fun _ => false) (by kernel_rfl) (fun R => ?_)
        refine E.OW.nil ?_
        refine E.then_n ?_
        refine E.CW.seq ?_
        refine E.CW.region ?_
        refine E.OW.pure rfl rfl rfl (E.PV.move rfl rfl) ?_
        refine E.OW.pure rfl rfl rfl (E.PV.indexArr1 Try.underlying102 in4 rfl rfl rfl (E.tn ?_) ?_) ?_; (focus (omega)); (focus (omega))
        refine E.OW.store_bools (i := 0) in4.size rfl rfl rfl rfl rfl rfl ?_ ?_; (focus (omega))
        refine E.OW.nil ?_
        refine E.then_n ?_
        refine E.CW.seq ?_
        refine E.CW.region ?_
        refine E.OW.pure rfl rfl rfl (E.PV.assign rfl rfl) ?_
        refine E.OW.nil ?_
        refine E.then_n ?_
        refine E.CW.seq ?_
        refine E.CW.block ?_
        refine E.CW.loopk [0, 1, 3, 10] 1 rfl rfl (fun mm mods Hm => ∃ k : Nat, ∃ r : Nat → Bool, mm = (Fl.dist a p q).toNat - k ∧ mods = [(11, .int .i64 k)] ∧ Hm = [E.HP.blk R 102 (E.bools 64 r)] ∧ (Fl.Rk a b p k r ∧ (k : Int) ≤ Fl.dist a p q)) ((Fl.dist a p q).toNat) ?_ ?_
        · exact ⟨[(11, _)], (by repeat (first | exact E.cov_nil | refine ⟨rfl, ?_⟩)), 0, _, rfl, rfl, rfl, Fl.Rk_start hp, Fl.dist_nn _ _ _⟩
        · rintro _ _ _ ⟨k, r, rfl, rfl, rfl, hR, hk⟩
          have hkn := Fl.Rk_q hq hR
          refine E.CW.seq ?_
          refine E.CW.seq ?_
          refine E.CW.region ?_
          refine E.OW.pure rfl rfl rfl (E.PV.move rfl rfl) ?_
          refine E.OW.pure rfl rfl rfl (E.PV.indexArr1 Try.underlying102 in4 rfl rfl rfl (E.tn ?_) ?_) ?_; (focus (omega)); (focus (omega))
          refine E.OW.pure rfl rfl rfl (E.PV.load_bools (i := 0) na4 rfl rfl rfl ?_) ?_; (focus (omega))
          refine E.OW.pure rfl rfl rfl (E.PV.not rfl rfl) ?_
          refine E.OW.nil ?_
          refine E.then_n ?_
          refine E.CW.cond rfl (fun hc => ?_) (fun hc => ?_)
          · simp only [E.b0, E.b1, E.b2, E.b3, E.b4, E.b5, E.b6, E.b7, E.b8, E.b9, E.b10, E.b11, E.b12, E.b13, E.b14, E.b15, E.b16, E.b17, E.b18, E.b19, E.b20, reduceCtorEq] at hc
            all_goals (
              refine E.CW.skip ?_
              refine E.then_n ?_
              refine E.CW.block ?_
              refine E.CW.seq ?_
              refine E.CW.region ?_
              refine E.OW.pure rfl rfl rfl (E.PV.loads_bools (i := 0) is102 rfl rfl rfl) ?_
              refine E.OW.alloc (in102.zr) rfl rfl rfl rfl (cs := E.bools 64 fun _ => false) (by kernel_rfl) (fun B2 => ?_)
              refine E.OW.store_boolsall (i := 0) in102.size rfl rfl rfl rfl rfl rfl ?_
              refine E.OW.nil ?_
              refine E.then_n ?_
              refine E.CW.seq ?_
              refine E.CW.seq ?_
              have hkd : (k : Int) < Fl.dist a p q := Int.not_le.1 fun hh => by simp_all
              refine E.CW.region ?_
              refine E.OW.pure rfl rfl rfl (E.PV.assign rfl rfl) ?_
              refine E.OW.nil ?_
              refine E.then_n ?_
              refine E.CW.block ?_
              refine E.CW.loopk [0, 1, 3, 10, 11, 12] 1 rfl rfl (fun mm mods Hm => ∃ s : Nat, ∃ g : Nat → Bool, mm = (a * b).toNat - s ∧ mods = [(13, .int .i64 s)] ∧ Hm = [E.HP.blk B2 102 (E.bools 64 g)] ∧ ((s : Int) ≤ a * b ∧ Fl.Nx a b r s 0 g)) ((a * b).toNat) ?_ ?_
              · exact ⟨[(13, _)], (by repeat (first | exact E.cov_nil | refine ⟨rfl, ?_⟩)), 0, _, rfl, rfl, rfl, by omega, Fl.Nx_start⟩
              · rintro _ _ _ ⟨s, g, rfl, rfl, rfl, hs, hN⟩
                refine E.CW.seq ?_
                refine E.CW.seq ?_
                refine E.CW.region ?_
                refine E.OW.pure rfl rfl rfl (E.PV.move rfl rfl) ?_
                refine E.OW.pure rfl rfl rfl (E.PV.move rfl rfl) ?_
                refine E.OW.pure rfl rfl rfl (E.PV.move rfl rfl) ?_
                refine E.OW.pure rfl rfl rfl (E.PV.mul_i64 rfl rfl rfl ?_) ?_; (focus ((first | omega | (have := Fl.mulb (a := a) (b := b) (by omega) (by omega); omega))))
                refine E.OW.pure rfl rfl rfl (E.PV.lss rfl rfl rfl) ?_
                refine E.OW.nil ?_
                refine E.then_n ?_
                refine E.CW.cond rfl (fun hc => ?_) (fun hc => ?_)
                · simp only [E.b0, E.b1, E.b2, E.b3, E.b4, E.b5, E.b6, E.b7, E.b8, E.b9, E.b10, E.b11, E.b12, E.b13, E.b14, E.b15, E.b16, E.b17, E.b18, E.b19, E.b20, reduceCtorEq] at hc
                  all_goals (
                    refine E.CW.skip ?_
                    refine E.then_n ?_
                    refine E.CW.seq ?_
                    refine E.CW.block ?_
                    refine E.CW.seq ?_
                    refine E.CW.region ?_
                    refine E.OW.pure rfl rfl rfl (E.PV.assign rfl rfl) ?_
                    refine E.OW.nil ?_
                    refine E.then_n ?_
                    refine E.CW.block ?_
                    refine E.CW.loopk [0, 1, 3, 10, 11, 12, 13] 1 rfl rfl (fun mm mods Hm => ∃ d : Nat, ∃ g : Nat → Bool, mm = 4 - d ∧ mods = [(14, .int .i64 d)] ∧ Hm = [E.HP.blk B2 102 (E.bools 64 g)] ∧ (d ≤ 4 ∧ Fl.Nx a b r s d g)) (4) ?_ ?_
                    · exact ⟨[(14, _)], (by repeat (first | exact E.cov_nil | refine ⟨rfl, ?_⟩)), 0, _, rfl, rfl, rfl, by omega, hN⟩
                    · rintro _ _ _ ⟨d, g, rfl, rfl, rfl, hd, hN2⟩
                      refine E.CW.seq ?_
                      refine E.CW.seq ?_
                      refine E.CW.region ?_
                      refine E.OW.pure rfl rfl rfl (E.PV.move rfl rfl) ?_
                      refine E.OW.pure rfl rfl rfl (E.PV.lss rfl rfl rfl) ?_
                      refine E.OW.pure rfl rfl rfl (E.PV.move rfl rfl) ?_
                      all_goals (refine E.OW.split 43 rfl (fun hc => ?_) (fun hc => ?_) <;> (try simp only [E.b0, E.b1, E.b2, E.b3, E.b4, E.b5, E.b6, E.b7, E.b8, E.b9, E.b10, E.b11, E.b12, E.b13, E.b14, E.b15, E.b16, E.b17, E.b18, E.b19, E.b20, reduceCtorEq] at hc) <;> (try (exfalso; first | assumption | contradiction | omega)))
                      all_goals (first | (refine E.OW.off rfl rfl rfl ?_) | (refine E.OW.pure rfl rfl rfl (E.PV.move rfl rfl) ?_))
                      all_goals (first | (refine E.OW.off rfl rfl rfl ?_) | (refine E.OW.pure rfl rfl rfl (E.PV.indexArr1 Try.underlying102 in4 rfl rfl rfl rfl ?_) ?_; (focus (omega))))
                      all_goals (first | (refine E.OW.off rfl rfl rfl ?_) | (refine E.OW.pure rfl rfl rfl (E.PV.load_bools (i := 1) na4 rfl rfl rfl ?_) ?_; (focus (omega))))
                      all_goals (first | (refine E.OW.pure rfl rfl rfl (E.PV.pick_t rfl rfl rfl) ?_) | (refine E.OW.pure rfl rfl rfl (E.PV.pick_f rfl rfl rfl) ?_))
                      all_goals (
                        refine E.OW.nil ?_
                        refine E.then_n ?_
                        refine E.CW.cond rfl (fun hc => ?_) (fun hc => ?_)
                        · first | ((cases hc; done)) | (skip)
                          all_goals (
                            refine E.CW.skip ?_
                            refine E.then_n ?_
                            refine E.CW.seq ?_
                            refine E.CW.block ?_
                            refine E.CW.seq ?_
                            refine E.CW.region ?_
                            refine E.OW.pure rfl rfl rfl (E.PV.move rfl rfl) ?_
                            refine E.OW.pure rfl rfl rfl (E.PV.move rfl rfl) ?_
                            refine E.OW.pure rfl rfl rfl (E.PV.move rfl rfl) ?_
                            refine E.OW.pure rfl rfl rfl (E.PV.move rfl rfl) ?_
                            (refine E.OW.call nm75 rfl rfl rfl rfl rfl rfl _ (fun w hw => rMove_ok _ _ _ _ hp0.1 (by omega) (by omega) w) ?_; rintro _ _ ⟨rfl, rfl⟩)
                            refine E.OW.pure rfl rfl rfl (E.PV.geq rfl rfl rfl) ?_
                            refine E.OW.nil ?_
                            refine E.then_n ?_
                            refine E.CW.cond rfl (fun hc => ?_) (fun hc => ?_)
                            · simp only [E.b0, E.b1, E.b2, E.b3, E.b4, E.b5, E.b6, E.b7, E.b8, E.b9, E.b10, E.b11, E.b12, E.b13, E.b14, E.b15, E.b16, E.b17, E.b18, E.b19, E.b20, reduceCtorEq] at hc
                              all_goals (
                                have hge := Fl.mv_ge (h := b) (p := (s : Int)) (d := (d : Int)) hp0.1 (by assumption)
                                refine E.CW.region ?_
                                refine E.OW.pure rfl rfl rfl (E.PV.move rfl rfl) ?_
                                refine E.OW.pure rfl rfl rfl (E.PV.move rfl rfl) ?_
                                refine E.OW.pure rfl rfl rfl (E.PV.move rfl rfl) ?_
                                refine E.OW.pure rfl rfl rfl (E.PV.move rfl rfl) ?_
                                (refine E.OW.call nm75 rfl rfl rfl rfl rfl rfl _ (fun w hw => rMove_ok _ _ _ _ hp0.1 (by omega) (by omega) w) ?_; rintro _ _ ⟨rfl, rfl⟩)
                                refine E.OW.pure rfl rfl rfl (E.PV.indexArr1 Try.underlying102 in4 rfl rfl rfl (E.tn ?_) ?_) ?_; (focus (omega)); (focus (omega))
                                refine E.OW.store_bools (i := 0) in4.size rfl rfl rfl rfl rfl rfl ?_ ?_; (focus (omega))
                                refine E.OW.nil ?_
                                refine E.blk_n ?_
                                refine E.then_n ?_
                                refine E.CW.region ?_
                                refine E.OW.pure rfl rfl rfl (E.PV.move rfl rfl) ?_
                                refine E.OW.pure rfl rfl rfl (E.PV.add_i64 rfl rfl rfl ?_) ?_; (focus ((first | omega | (have := Fl.mulb (a := a) (b := b) (by omega) (by omega); omega))))
                                refine E.OW.pure rfl rfl rfl (E.PV.assign rfl rfl) ?_
                                refine E.OW.nil ?_
                                refine E.then_nf ?_
                                refine ⟨_, [(14, _)], [0, 0], _, ?_, by repeat (first | exact E.cov_nil | refine ⟨rfl, ?_⟩), rfl, d + 1, _, rfl, rfl, rfl, by omega, Fl.Nx_add hN2 (by assumption) (by omega) (by omega) (by assumption)⟩
                                omega)
                            · simp only [E.b0, E.b1, E.b2, E.b3, E.b4, E.b5, E.b6, E.b7, E.b8, E.b9, E.b10, E.b11, E.b12, E.b13, E.b14, E.b15, E.b16, E.b17, E.b18, E.b19, E.b20, reduceCtorEq] at hc
                              all_goals (
                                refine E.CW.skip ?_
                                refine E.blk_n ?_
                                refine E.then_n ?_
                                refine E.CW.region ?_
                                refine E.OW.pure rfl rfl rfl (E.PV.move rfl rfl) ?_
                                refine E.OW.pure rfl rfl rfl (E.PV.add_i64 rfl rfl rfl ?_) ?_; (focus ((first | omega | (have := Fl.mulb (a := a) (b := b) (by omega) (by omega); omega))))
                                refine E.OW.pure rfl rfl rfl (E.PV.assign rfl rfl) ?_
                                refine E.OW.nil ?_
                                refine E.then_nf ?_
                                refine ⟨_, [(14, _)], [0, 0], _, ?_, by repeat (first | exact E.cov_nil | refine ⟨rfl, ?_⟩), rfl, d + 1, g, rfl, rfl, rfl, by omega, Fl.Nx_skip hN2 (by assumption)⟩
                                omega))
                        · first | (simp only [E.b0, E.b1, E.b2, E.b3, E.b4, E.b5, E.b6, E.b7, E.b8, E.b9, E.b10, E.b11, E.b12, E.b13, E.b14, E.b15, E.b16, E.b17, E.b18, E.b19, E.b20, reduceCtorEq] at hc) | (skip)
                          all_goals (
                            refine E.CW.exit ?_
                            refine E.then_x ?_
                            refine E.then_x ?_
                            refine E.blk_eq ?_
                            refine E.blk_n ?_
                            refine E.then_n ?_
                            refine E.CW.region ?_
                            refine E.OW.pure rfl rfl rfl (E.PV.move rfl rfl) ?_
                            refine E.OW.pure rfl rfl rfl (E.PV.add_i64 rfl rfl rfl ?_) ?_; (focus ((first | omega | (have := Fl.mulb (a := a) (b := b) (by omega) (by omega); omega))))
                            refine E.OW.pure rfl rfl rfl (E.PV.assign rfl rfl) ?_
                            refine E.OW.nil ?_
                            refine E.then_nf ?_
                            refine ⟨_, [(13, _)], [0, 0], _, ?_, by repeat (first | exact E.cov_nil | refine ⟨rfl, ?_⟩), rfl, s + 1, g, rfl, rfl, rfl, by omega, Fl.Nx_row hN2 (by first | (right; omega) | (left; simp_all))⟩
                            omega)))
                · simp only [E.b0, E.b1, E.b2, E.b3, E.b4, E.b5, E.b6, E.b7, E.b8, E.b9, E.b10, E.b11, E.b12, E.b13, E.b14, E.b15, E.b16, E.b17, E.b18, E.b19, E.b20, reduceCtorEq] at hc
                  all_goals (
                    refine E.CW.exit ?_
                    refine E.then_x ?_
                    refine E.then_x ?_
                    refine E.blk_eq ?_
                    refine E.then_n ?_
                    refine E.CW.seq ?_
                    refine E.CW.region ?_
                    refine E.OW.pure rfl rfl rfl (E.PV.loads_bools (i := 0) is102 rfl rfl rfl) ?_
                    refine E.OW.store_boolsall (i := 1) in102.size rfl rfl rfl rfl rfl rfl ?_
                    refine E.OW.nil ?_
                    refine E.then_n ?_
                    refine E.CW.region ?_
                    refine E.OW.pure rfl rfl rfl (E.PV.move rfl rfl) ?_
                    refine E.OW.pure rfl rfl rfl (E.PV.add_i64 rfl rfl rfl ?_) ?_; (focus ((first | omega | (have := Fl.mulb (a := a) (b := b) (by omega) (by omega); omega))))
                    refine E.OW.pure rfl rfl rfl (E.PV.assign rfl rfl) ?_
                    refine E.OW.nil ?_
                    refine E.blk_n ?_
                    refine E.then_nf ?_
                    refine ⟨_, [(11, _)], [0], _, ?_, by repeat (first | exact E.cov_nil | refine ⟨rfl, ?_⟩), rfl, k + 1, g, rfl, rfl, rfl, Fl.Nx_done hp hR hN (by omega), by omega⟩
                    omega))
          · simp only [E.b0, E.b1, E.b2, E.b3, E.b4, E.b5, E.b6, E.b7, E.b8, E.b9, E.b10, E.b11, E.b12, E.b13, E.b14, E.b15, E.b16, E.b17, E.b18, E.b19, E.b20, reduceCtorEq] at hc
            all_goals (
              refine E.CW.exit ?_
              refine E.then_x ?_
              refine E.then_x ?_
              refine E.blk_eq ?_
              refine E.then_n ?_
              refine E.CW.seq ?_
              refine E.CW.region ?_
              refine E.OW.pure rfl rfl rfl (E.PV.move rfl rfl) ?_
              refine E.OW.pure rfl rfl rfl (E.PV.assign rfl rfl) ?_
              refine E.OW.pure rfl rfl rfl (E.PV.assign rfl rfl) ?_
              refine E.OW.nil ?_
              refine E.then_n ?_
              refine E.CW.ret ?_
              refine E.KR.two [] Try.results38 rfl rfl rfl ?_
              exact ⟨by (have e : Fl.dist a p q = k := by (have := hkn.1 (by assumption); omega)); simp [Fl.distance, hp, hq, e], rfl⟩)))
end Go.Proofs.Ytbofflmmgokkhaa
