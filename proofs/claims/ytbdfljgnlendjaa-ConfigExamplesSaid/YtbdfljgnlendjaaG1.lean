/- Walks (printed by gen.py). -/
import Derived.Test.YtbdfljgnlendjaaFacts
import Derived.Test.YtbdfljgnlendjaaTm
import Derived.Lib.Hide
namespace Go.Proofs.Ytbdfljgnlendjaa
open Go Go.RowKit
set_option linter.unusedSimpArgs false
set_option linter.unusedVariables false

set_option maxRecDepth 100000 in
theorem EqU_ok (A : Option Addr) (c : Nat) (l : List UInt8) (A2 : Option Addr) (c2 : Nat) (l2 : List UInt8) (w0 : World) (hl : l.length ≤ 140737488355328) (hX : E.Rd w0 (E.Old w0) A (E.u8s l)) (hY : E.Rd w0 (E.Old w0) A2 (E.u8s l2)) :
    Calls Try.prog 55 #[.slice A l.length c, .slice A2 l2.length c2] w0 (E.Post w0 (E.Old w0) fun v Hn => v = .bool (decide (l = l2)) ∧ Hn = []) := by
  refine E.calls_of (vs := [.slice A l.length c, .slice A2 l2.length c2]) (H := []) Try.func55 Try.ntmps55 rfl rfl (E.HA.start w0) ?_
  refine E.CW.seq ?_
  refine E.CW.region ?_
  refine E.OW.pure rfl rfl rfl (E.PV.assign rfl rfl) ?_
  refine E.OW.nil ?_
  refine E.then_n ?_
  refine E.CW.seq ?_
  refine E.CW.seq ?_
  refine E.CW.region ?_
  refine E.OW.pure rfl rfl rfl (E.PV.move rfl rfl) ?_
  refine E.OW.pure rfl rfl rfl (E.PV.len Try.underlying22 rfl rfl) ?_
  refine E.OW.pure rfl rfl rfl (E.PV.move rfl rfl) ?_
  refine E.OW.pure rfl rfl rfl (E.PV.len Try.underlying22 rfl rfl) ?_
  refine E.OW.pure rfl rfl rfl (E.PV.neq rfl rfl rfl) ?_
  refine E.OW.nil ?_
  refine E.then_n ?_
  refine E.CW.cond rfl (fun hc => ?_) (fun hc => ?_)
  · simp only [E.b0, E.b1, E.b2, E.b3, E.b4, E.b5, E.b6, E.b7, E.b8, E.b9, E.b10, E.b11, E.b12, E.b13, E.b14, E.b15, E.b16, E.b17, E.b18, E.b19, E.b20, reduceCtorEq] at hc
    all_goals (
      refine E.CW.seq ?_
      refine E.CW.region ?_
      refine E.OW.pure rfl rfl rfl (E.PV.assign rfl rfl) ?_
      refine E.OW.nil ?_
      refine E.then_n ?_
      refine E.CW.ret ?_
      refine E.then_ret ?_
      refine E.KR.one [] Try.results55 rfl rfl ?_
      exact ⟨by rw [Fl.ne_len (by omega)], rfl⟩)
  · simp only [E.b0, E.b1, E.b2, E.b3, E.b4, E.b5, E.b6, E.b7, E.b8, E.b9, E.b10, E.b11, E.b12, E.b13, E.b14, E.b15, E.b16, E.b17, E.b18, E.b19, E.b20, reduceCtorEq] at hc
    all_goals (
      refine E.CW.skip ?_
      refine E.then_n ?_
      refine E.CW.seq ?_
      refine E.CW.seq ?_
      refine E.CW.region ?_
      refine E.OW.pure rfl rfl rfl (E.PV.move rfl rfl) ?_
      refine E.OW.pure rfl rfl rfl (E.PV.len Try.underlying22 rfl rfl) ?_
      refine E.OW.pure rfl rfl rfl (E.PV.move rfl rfl) ?_
      refine E.OW.nil ?_
      refine E.then_n ?_
      refine E.CW.block ?_
      refine E.CW.loopk [0, 1, 12] 0 rfl rfl (fun mm mods Hm => ∃ k : Nat, mm = l.length - k ∧ mods = [(13, .int .i64 k)] ∧ Hm = [] ∧ (k ≤ l.length ∧ ∀ j, j < k → l.getD j 0 = l2.getD j 0)) (l.length) ?_ ?_
      · exact ⟨[(13, _)], (by repeat (first | exact E.cov_nil | refine ⟨rfl, ?_⟩)), 0, rfl, rfl, rfl, by omega, fun j hj => by omega⟩
      · rintro _ _ _ ⟨k, rfl, rfl, rfl, hk, hI⟩
        refine E.CW.seq ?_
        refine E.CW.region ?_
        refine E.OW.pure rfl rfl rfl (E.PV.lss rfl rfl rfl) ?_
        refine E.OW.nil ?_
        refine E.then_n ?_
        refine E.CW.seq ?_
        refine E.CW.cond rfl (fun hc => ?_) (fun hc => ?_)
        · simp only [E.b0, E.b1, E.b2, E.b3, E.b4, E.b5, E.b6, E.b7, E.b8, E.b9, E.b10, E.b11, E.b12, E.b13, E.b14, E.b15, E.b16, E.b17, E.b18, E.b19, E.b20, reduceCtorEq] at hc
          all_goals (
            refine E.CW.skip ?_
            refine E.then_n ?_
            refine E.CW.seq ?_
            refine E.CW.block ?_
            refine E.CW.seq ?_
            refine E.CW.region ?_
            refine E.OW.pure rfl rfl rfl (E.PV.move rfl rfl) ?_
            refine E.OW.pure rfl rfl rfl (E.PV.assign rfl rfl) ?_
            refine E.OW.nil ?_
            refine E.then_n ?_
            refine E.CW.seq ?_
            refine E.CW.draw mixed (by kernel_rfl) ?_
            refine E.QW.pure rfl rfl rfl (E.PV.move rfl rfl) ?_
            refine E.QW.pure rfl rfl rfl (E.PV.move rfl rfl) ?_
            refine E.QW.pure rfl rfl rfl (E.PV.indexAddr1 (E.rdc hX) Try.underlying22 in5 rfl rfl rfl rfl ?_ ?_) ?_; (focus (first | (simp; done) | (simp; omega))); (focus (omega))
            refine E.QW.pure rfl rfl rfl (E.PV.load_u8 (E.rdc hX) na5 rfl rfl ?_) ?_; (focus (omega))
            refine E.QW.pure rfl rfl rfl (E.PV.move rfl rfl) ?_
            refine E.QW.pure rfl rfl rfl (E.PV.move rfl rfl) ?_
            refine E.QW.pure rfl rfl rfl (E.PV.indexAddr1 (E.rdc hY) Try.underlying22 in5 rfl rfl rfl rfl ?_ ?_) ?_; (focus (first | (simp; done) | (simp; omega))); (focus (omega))
            refine E.QW.pure rfl rfl rfl (E.PV.load_u8 (E.rdc hY) na5 rfl rfl ?_) ?_; (focus (omega))
            refine E.QW.pure rfl rfl rfl (E.PV.neq rfl rfl rfl) ?_
            refine E.QW.nil ?_
            refine E.then_n ?_
            refine E.CW.cond rfl (fun hc => ?_) (fun hc => ?_)
            · simp only [E.b0, E.b1, E.b2, E.b3, E.b4, E.b5, E.b6, E.b7, E.b8, E.b9, E.b10, E.b11, E.b12, E.b13, E.b14, E.b15, E.b16, E.b17, E.b18, E.b19, E.b20, reduceCtorEq] at hc
              all_goals (
                refine E.CW.seq ?_
                refine E.CW.region ?_
                refine E.OW.pure rfl rfl rfl (E.PV.assign rfl rfl) ?_
                refine E.OW.nil ?_
                refine E.then_n ?_
                refine E.CW.ret ?_
                refine E.blk_ret ?_
                refine E.then_ret ?_
                refine E.then_ret ?_
                refine E.blk_ret ?_
                refine E.then_ret ?_
                refine E.KR.one [] Try.results55 rfl rfl ?_
                exact ⟨by rw [Fl.ne_at (k := k) (d := 0) (fun e => by rw [e] at hc; exact hc rfl)], rfl⟩)
            · simp only [E.b0, E.b1, E.b2, E.b3, E.b4, E.b5, E.b6, E.b7, E.b8, E.b9, E.b10, E.b11, E.b12, E.b13, E.b14, E.b15, E.b16, E.b17, E.b18, E.b19, E.b20, reduceCtorEq] at hc
              all_goals (
                refine E.CW.skip ?_
                refine E.blk_n ?_
                refine E.then_n ?_
                refine E.CW.region ?_
                refine E.OW.pure rfl rfl rfl (E.PV.add_i64 rfl rfl rfl ?_) ?_; (focus (omega))
                refine E.OW.pure rfl rfl rfl (E.PV.move rfl rfl) ?_
                refine E.OW.nil ?_
                refine E.then_nf ?_
                refine ⟨_, [(13, _)], [], _, ?_, by repeat (first | exact E.cov_nil | refine ⟨rfl, ?_⟩), rfl, k + 1, rfl, rfl, rfl, by omega, Cf.upto hI (Cf.u8_eq (by assumption))⟩
                omega))
        · simp only [E.b0, E.b1, E.b2, E.b3, E.b4, E.b5, E.b6, E.b7, E.b8, E.b9, E.b10, E.b11, E.b12, E.b13, E.b14, E.b15, E.b16, E.b17, E.b18, E.b19, E.b20, reduceCtorEq] at hc
          all_goals (
            refine E.CW.exit ?_
            refine E.then_x ?_
            refine E.then_x ?_
            refine E.blk_eq ?_
            refine E.then_n ?_
            refine E.CW.seq ?_
            refine E.CW.region ?_
            refine E.OW.pure rfl rfl rfl (E.PV.assign rfl rfl) ?_
            refine E.OW.nil ?_
            refine E.then_n ?_
            refine E.CW.ret ?_
            refine E.KR.one [] Try.results55 rfl rfl ?_
            exact ⟨by rw [Fl.eq_at (d := 0) (by omega) (fun j hj => hI j (by omega))], rfl⟩))

set_option maxRecDepth 100000 in
theorem EqI_ok (A : Option Addr) (c : Nat) (l : List Int) (A2 : Option Addr) (c2 : Nat) (l2 : List Int) (w0 : World) (hl : l.length ≤ 140737488355328) (hX : E.Rd w0 (E.Old w0) A (E.ints l)) (hY : E.Rd w0 (E.Old w0) A2 (E.ints l2)) :
    Calls Try.prog 100 #[.slice A l.length c, .slice A2 l2.length c2] w0 (E.Post w0 (E.Old w0) fun v Hn => v = .bool (decide (l = l2)) ∧ Hn = []) := by
  refine E.calls_of (vs := [.slice A l.length c, .slice A2 l2.length c2]) (H := []) Try.func100 Try.ntmps100 rfl rfl (E.HA.start w0) ?_
  refine E.CW.seq ?_
  refine E.CW.region ?_
  refine E.OW.pure rfl rfl rfl (E.PV.assign rfl rfl) ?_
  refine E.OW.nil ?_
  refine E.then_n ?_
  refine E.CW.seq ?_
  refine E.CW.seq ?_
  refine E.CW.region ?_
  refine E.OW.pure rfl rfl rfl (E.PV.move rfl rfl) ?_
  refine E.OW.pure rfl rfl rfl (E.PV.len Try.underlying31 rfl rfl) ?_
  refine E.OW.pure rfl rfl rfl (E.PV.move rfl rfl) ?_
  refine E.OW.pure rfl rfl rfl (E.PV.len Try.underlying31 rfl rfl) ?_
  refine E.OW.pure rfl rfl rfl (E.PV.neq rfl rfl rfl) ?_
  refine E.OW.nil ?_
  refine E.then_n ?_
  refine E.CW.cond rfl (fun hc => ?_) (fun hc => ?_)
  · simp only [E.b0, E.b1, E.b2, E.b3, E.b4, E.b5, E.b6, E.b7, E.b8, E.b9, E.b10, E.b11, E.b12, E.b13, E.b14, E.b15, E.b16, E.b17, E.b18, E.b19, E.b20, reduceCtorEq] at hc
    all_goals (
      refine E.CW.seq ?_
      refine E.CW.region ?_
      refine E.OW.pure rfl rfl rfl (E.PV.assign rfl rfl) ?_
      refine E.OW.nil ?_
      refine E.then_n ?_
      refine E.CW.ret ?_
      refine E.then_ret ?_
      refine E.KR.one [] Try.results100 rfl rfl ?_
      exact ⟨by rw [Fl.ne_len (by omega)], rfl⟩)
  · simp only [E.b0, E.b1, E.b2, E.b3, E.b4, E.b5, E.b6, E.b7, E.b8, E.b9, E.b10, E.b11, E.b12, E.b13, E.b14, E.b15, E.b16, E.b17, E.b18, E.b19, E.b20, reduceCtorEq] at hc
    all_goals (
      refine E.CW.skip ?_
      refine E.then_n ?_
      refine E.CW.seq ?_
      refine E.CW.seq ?_
      refine E.CW.region ?_
      refine E.OW.pure rfl rfl rfl (E.PV.move rfl rfl) ?_
      refine E.OW.pure rfl rfl rfl (E.PV.len Try.underlying31 rfl rfl) ?_
      refine E.OW.pure rfl rfl rfl (E.PV.move rfl rfl) ?_
      refine E.OW.nil ?_
      refine E.then_n ?_
      refine E.CW.block ?_
      refine E.CW.loopk [0, 1, 12] 0 rfl rfl (fun mm mods Hm => ∃ k : Nat, mm = l.length - k ∧ mods = [(13, .int .i64 k)] ∧ Hm = [] ∧ (k ≤ l.length ∧ ∀ j, j < k → l.getD j 0 = l2.getD j 0)) (l.length) ?_ ?_
      · exact ⟨[(13, _)], (by repeat (first | exact E.cov_nil | refine ⟨rfl, ?_⟩)), 0, rfl, rfl, rfl, by omega, fun j hj => by omega⟩
      · rintro _ _ _ ⟨k, rfl, rfl, rfl, hk, hI⟩
        refine E.CW.seq ?_
        refine E.CW.region ?_
        refine E.OW.pure rfl rfl rfl (E.PV.lss rfl rfl rfl) ?_
        refine E.OW.nil ?_
        refine E.then_n ?_
        refine E.CW.seq ?_
        refine E.CW.cond rfl (fun hc => ?_) (fun hc => ?_)
        · simp only [E.b0, E.b1, E.b2, E.b3, E.b4, E.b5, E.b6, E.b7, E.b8, E.b9, E.b10, E.b11, E.b12, E.b13, E.b14, E.b15, E.b16, E.b17, E.b18, E.b19, E.b20, reduceCtorEq] at hc
          all_goals (
            refine E.CW.skip ?_
            refine E.then_n ?_
            refine E.CW.seq ?_
            refine E.CW.block ?_
            refine E.CW.seq ?_
            refine E.CW.region ?_
            refine E.OW.pure rfl rfl rfl (E.PV.move rfl rfl) ?_
            refine E.OW.pure rfl rfl rfl (E.PV.assign rfl rfl) ?_
            refine E.OW.nil ?_
            refine E.then_n ?_
            refine E.CW.seq ?_
            refine E.CW.draw mixed (by kernel_rfl) ?_
            refine E.QW.pure rfl rfl rfl (E.PV.move rfl rfl) ?_
            refine E.QW.pure rfl rfl rfl (E.PV.move rfl rfl) ?_
            refine E.QW.pure rfl rfl rfl (E.PV.indexAddr1 (E.rdc hX) Try.underlying31 in3 rfl rfl rfl rfl ?_ ?_) ?_; (focus (first | (simp; done) | (simp; omega))); (focus (omega))
            refine E.QW.pure rfl rfl rfl (E.PV.load_int (E.rdc hX) na3 rfl rfl ?_) ?_; (focus (omega))
            refine E.QW.pure rfl rfl rfl (E.PV.move rfl rfl) ?_
            refine E.QW.pure rfl rfl rfl (E.PV.move rfl rfl) ?_
            refine E.QW.pure rfl rfl rfl (E.PV.indexAddr1 (E.rdc hY) Try.underlying31 in3 rfl rfl rfl rfl ?_ ?_) ?_; (focus (first | (simp; done) | (simp; omega))); (focus (omega))
            refine E.QW.pure rfl rfl rfl (E.PV.load_int (E.rdc hY) na3 rfl rfl ?_) ?_; (focus (omega))
            refine E.QW.pure rfl rfl rfl (E.PV.neq rfl rfl rfl) ?_
            refine E.QW.nil ?_
            refine E.then_n ?_
            refine E.CW.cond rfl (fun hc => ?_) (fun hc => ?_)
            · simp only [E.b0, E.b1, E.b2, E.b3, E.b4, E.b5, E.b6, E.b7, E.b8, E.b9, E.b10, E.b11, E.b12, E.b13, E.b14, E.b15, E.b16, E.b17, E.b18, E.b19, E.b20, reduceCtorEq] at hc
              all_goals (
                refine E.CW.seq ?_
                refine E.CW.region ?_
                refine E.OW.pure rfl rfl rfl (E.PV.assign rfl rfl) ?_
                refine E.OW.nil ?_
                refine E.then_n ?_
                refine E.CW.ret ?_
                refine E.blk_ret ?_
                refine E.then_ret ?_
                refine E.then_ret ?_
                refine E.blk_ret ?_
                refine E.then_ret ?_
                refine E.KR.one [] Try.results100 rfl rfl ?_
                exact ⟨by rw [Fl.ne_at (k := k) (d := 0) (by assumption)], rfl⟩)
            · simp only [E.b0, E.b1, E.b2, E.b3, E.b4, E.b5, E.b6, E.b7, E.b8, E.b9, E.b10, E.b11, E.b12, E.b13, E.b14, E.b15, E.b16, E.b17, E.b18, E.b19, E.b20, reduceCtorEq] at hc
              all_goals (
                refine E.CW.skip ?_
                refine E.blk_n ?_
                refine E.then_n ?_
                refine E.CW.region ?_
                refine E.OW.pure rfl rfl rfl (E.PV.add_i64 rfl rfl rfl ?_) ?_; (focus (omega))
                refine E.OW.pure rfl rfl rfl (E.PV.move rfl rfl) ?_
                refine E.OW.nil ?_
                refine E.then_nf ?_
                refine ⟨_, [(13, _)], [], _, ?_, by repeat (first | exact E.cov_nil | refine ⟨rfl, ?_⟩), rfl, k + 1, rfl, rfl, rfl, by omega, Cf.upto hI (by assumption)⟩
                omega))
        · simp only [E.b0, E.b1, E.b2, E.b3, E.b4, E.b5, E.b6, E.b7, E.b8, E.b9, E.b10, E.b11, E.b12, E.b13, E.b14, E.b15, E.b16, E.b17, E.b18, E.b19, E.b20, reduceCtorEq] at hc
          all_goals (
            refine E.CW.exit ?_
            refine E.then_x ?_
            refine E.then_x ?_
            refine E.blk_eq ?_
            refine E.then_n ?_
            refine E.CW.seq ?_
            refine E.CW.region ?_
            refine E.OW.pure rfl rfl rfl (E.PV.assign rfl rfl) ?_
            refine E.OW.nil ?_
            refine E.then_n ?_
            refine E.CW.ret ?_
            refine E.KR.one [] Try.results100 rfl rfl ?_
            exact ⟨by rw [Fl.eq_at (d := 0) (by omega) (fun j hj => hI j (by omega))], rfl⟩))

set_option maxRecDepth 100000 in
theorem sameTeam_ok (m m2 : E.Tm) (w0 : World) (hm : m.rd w0 (E.Old w0)) (hm2 : m2.rd w0 (E.Old w0)) (hf : m.q.fit) (hf2 : m2.q.fit) :
    Calls Try.prog 57 #[m.v, m2.v] w0 (E.Post w0 (E.Old w0) fun v Hn => v = .bool (decide (m.q = m2.q)) ∧ Hn = []) := by
  obtain ⟨hX, hY, hZ⟩ := hm
  obtain ⟨hX2, hY2, hZ2⟩ := hm2
  have hs1 := hf.h
  have hs2 := hf.p
  have hs3 := hf.d
  refine E.calls_of (vs := [m.v, m2.v]) (H := []) Try.func57 Try.ntmps57 rfl rfl (E.HA.start w0) ?_
  refine E.CW.seq ?_
  refine E.CW.region ?_
  refine E.OW.box rfl rfl rfl rfl rfl rfl (fun B1 => ?_)
  refine E.OW.box rfl rfl rfl rfl rfl rfl (fun B2 => ?_)
  refine E.OW.pure rfl rfl rfl (E.PV.assign rfl rfl) ?_
  refine E.OW.nil ?_
  refine E.then_n ?_
  refine E.CW.seq ?_
  refine E.CW.region ?_
  refine E.OW.pure rfl rfl rfl (E.PV.fieldAddr fa33_0 rfl rfl) ?_
  refine E.OW.pure rfl rfl rfl (E.PV.load (i := 1) na31 rfl rfl rfl rfl) ?_
  refine E.OW.pure rfl rfl rfl (E.PV.fieldAddr fa33_0 rfl rfl) ?_
  refine E.OW.pure rfl rfl rfl (E.PV.load (i := 0) na31 rfl rfl rfl rfl) ?_
  (refine E.OW.call nm100 rfl rfl rfl rfl rfl rfl _ (fun w hw => EqI_ok _ _ m.q.h _ _ m2.q.h w ?_ ?_ ?_) ?_; (focus (omega)); (focus (refine hw.rd ?_; assumption)); (focus (refine hw.rd ?_; assumption)); rintro _ _ ⟨rfl, rfl⟩)
  refine E.OW.pure rfl rfl rfl (E.PV.move rfl rfl) ?_
  all_goals (refine E.OW.split 10 rfl (fun hc => ?_) (fun hc => ?_) <;> (try simp only [E.b0, E.b1, E.b2, E.b3, E.b4, E.b5, E.b6, E.b7, E.b8, E.b9, E.b10, E.b11, E.b12, E.b13, E.b14, E.b15, E.b16, E.b17, E.b18, E.b19, E.b20, reduceCtorEq] at hc) <;> (try (exfalso; first | assumption | contradiction | omega)))
  all_goals (first | (refine E.OW.off rfl rfl rfl ?_) | (refine E.OW.pure rfl rfl rfl (E.PV.fieldAddr fa33_1 rfl rfl) ?_))
  all_goals (first | (refine E.OW.off rfl rfl rfl ?_) | (refine E.OW.pure rfl rfl rfl (E.PV.load (i := 1) na31 rfl rfl rfl rfl) ?_))
  all_goals (first | (refine E.OW.off rfl rfl rfl ?_) | (refine E.OW.pure rfl rfl rfl (E.PV.fieldAddr fa33_1 rfl rfl) ?_))
  all_goals (first | (refine E.OW.off rfl rfl rfl ?_) | (refine E.OW.pure rfl rfl rfl (E.PV.load (i := 0) na31 rfl rfl rfl rfl) ?_))
  all_goals (first | (refine E.OW.off rfl rfl rfl ?_) | ((refine E.OW.call nm100 rfl rfl rfl rfl rfl rfl _ (fun w hw => EqI_ok _ _ m.q.p _ _ m2.q.p w ?_ ?_ ?_) ?_; (focus (omega)); (focus (refine hw.rd ?_; assumption)); (focus (refine hw.rd ?_; assumption)); rintro _ _ ⟨rfl, rfl⟩)))
  all_goals (first | (refine E.OW.pure rfl rfl rfl (E.PV.pick_t rfl rfl rfl) ?_) | (refine E.OW.pure rfl rfl rfl (E.PV.pick_f rfl rfl rfl) ?_))
  all_goals (refine E.OW.pure rfl rfl rfl (E.PV.move rfl rfl) ?_)
  all_goals (first | (refine E.OW.put 17 (.bool false) (v := .bool false) rfl rfl ?_) | (refine E.OW.split 17 rfl (fun hc => ?_) (fun hc => ?_) <;> (try simp only [E.b0, E.b1, E.b2, E.b3, E.b4, E.b5, E.b6, E.b7, E.b8, E.b9, E.b10, E.b11, E.b12, E.b13, E.b14, E.b15, E.b16, E.b17, E.b18, E.b19, E.b20, reduceCtorEq] at hc) <;> (try (exfalso; first | assumption | contradiction | omega))))
  all_goals (first | (refine E.OW.off rfl rfl rfl ?_) | (refine E.OW.pure rfl rfl rfl (E.PV.fieldAddr fa33_2 rfl rfl) ?_))
  all_goals (first | (refine E.OW.off rfl rfl rfl ?_) | (refine E.OW.pure rfl rfl rfl (E.PV.load (i := 1) na31 rfl rfl rfl rfl) ?_))
  all_goals (first | (refine E.OW.off rfl rfl rfl ?_) | (refine E.OW.pure rfl rfl rfl (E.PV.fieldAddr fa33_2 rfl rfl) ?_))
  all_goals (first | (refine E.OW.off rfl rfl rfl ?_) | (refine E.OW.pure rfl rfl rfl (E.PV.load (i := 0) na31 rfl rfl rfl rfl) ?_))
  all_goals (first | (refine E.OW.off rfl rfl rfl ?_) | ((refine E.OW.call nm100 rfl rfl rfl rfl rfl rfl _ (fun w hw => EqI_ok _ _ m.q.d _ _ m2.q.d w ?_ ?_ ?_) ?_; (focus (omega)); (focus (refine hw.rd ?_; assumption)); (focus (refine hw.rd ?_; assumption)); rintro _ _ ⟨rfl, rfl⟩)))
  all_goals (first | (refine E.OW.pure rfl rfl rfl (E.PV.pick_t rfl rfl rfl) ?_) | (refine E.OW.pure rfl rfl rfl (E.PV.pick_f rfl rfl rfl) ?_))
  all_goals (refine E.OW.pure rfl rfl rfl (E.PV.move rfl rfl) ?_)
  all_goals (first | (refine E.OW.put 24 (.bool false) (v := .bool false) rfl rfl ?_) | (refine E.OW.split 24 rfl (fun hc => ?_) (fun hc => ?_) <;> (try simp only [E.b0, E.b1, E.b2, E.b3, E.b4, E.b5, E.b6, E.b7, E.b8, E.b9, E.b10, E.b11, E.b12, E.b13, E.b14, E.b15, E.b16, E.b17, E.b18, E.b19, E.b20, reduceCtorEq] at hc) <;> (try (exfalso; first | assumption | contradiction | omega))))
  all_goals (first | (refine E.OW.off rfl rfl rfl ?_) | (refine E.OW.pure rfl rfl rfl (E.PV.fieldAddr fa33_3 rfl rfl) ?_))
  all_goals (first | (refine E.OW.off rfl rfl rfl ?_) | (refine E.OW.pure rfl rfl rfl (E.PV.load (i := 1) na3 rfl rfl rfl rfl) ?_))
  all_goals (first | (refine E.OW.off rfl rfl rfl ?_) | (refine E.OW.pure rfl rfl rfl (E.PV.fieldAddr fa33_3 rfl rfl) ?_))
  all_goals (first | (refine E.OW.off rfl rfl rfl ?_) | (refine E.OW.pure rfl rfl rfl (E.PV.load (i := 0) na3 rfl rfl rfl rfl) ?_))
  all_goals (first | (refine E.OW.off rfl rfl rfl ?_) | (refine E.OW.pure rfl rfl rfl (E.PV.eql rfl rfl rfl) ?_))
  all_goals (first | (refine E.OW.pure rfl rfl rfl (E.PV.pick_t rfl rfl rfl) ?_) | (refine E.OW.pure rfl rfl rfl (E.PV.pick_f rfl rfl rfl) ?_))
  all_goals (refine E.OW.pure rfl rfl rfl (E.PV.move rfl rfl) ?_)
  all_goals (first | (refine E.OW.put 31 (.bool false) (v := .bool false) rfl rfl ?_) | (refine E.OW.split 31 rfl (fun hc => ?_) (fun hc => ?_) <;> (try simp only [E.b0, E.b1, E.b2, E.b3, E.b4, E.b5, E.b6, E.b7, E.b8, E.b9, E.b10, E.b11, E.b12, E.b13, E.b14, E.b15, E.b16, E.b17, E.b18, E.b19, E.b20, reduceCtorEq] at hc) <;> (try (exfalso; first | assumption | contradiction | omega))))
  all_goals (first | (refine E.OW.off rfl rfl rfl ?_) | (refine E.OW.pure rfl rfl rfl (E.PV.fieldAddr fa33_4 rfl rfl) ?_))
  all_goals (first | (refine E.OW.off rfl rfl rfl ?_) | (refine E.OW.pure rfl rfl rfl (E.PV.load (i := 1) na3 rfl rfl rfl rfl) ?_))
  all_goals (first | (refine E.OW.off rfl rfl rfl ?_) | (refine E.OW.pure rfl rfl rfl (E.PV.fieldAddr fa33_4 rfl rfl) ?_))
  all_goals (first | (refine E.OW.off rfl rfl rfl ?_) | (refine E.OW.pure rfl rfl rfl (E.PV.load (i := 0) na3 rfl rfl rfl rfl) ?_))
  all_goals (first | (refine E.OW.off rfl rfl rfl ?_) | (refine E.OW.pure rfl rfl rfl (E.PV.eql rfl rfl rfl) ?_))
  all_goals (first | (refine E.OW.pure rfl rfl rfl (E.PV.pick_t rfl rfl rfl) ?_) | (refine E.OW.pure rfl rfl rfl (E.PV.pick_f rfl rfl rfl) ?_))
  all_goals (refine E.OW.pure rfl rfl rfl (E.PV.move rfl rfl) ?_)
  all_goals (first | (refine E.OW.put 38 (.bool false) (v := .bool false) rfl rfl ?_) | (refine E.OW.split 38 rfl (fun hc => ?_) (fun hc => ?_) <;> (try simp only [E.b0, E.b1, E.b2, E.b3, E.b4, E.b5, E.b6, E.b7, E.b8, E.b9, E.b10, E.b11, E.b12, E.b13, E.b14, E.b15, E.b16, E.b17, E.b18, E.b19, E.b20, reduceCtorEq] at hc) <;> (try (exfalso; first | assumption | contradiction | omega))))
  all_goals (first | (refine E.OW.off rfl rfl rfl ?_) | (refine E.OW.pure rfl rfl rfl (E.PV.fieldAddr fa33_5 rfl rfl) ?_))
  all_goals (first | (refine E.OW.off rfl rfl rfl ?_) | (refine E.OW.pure rfl rfl rfl (E.PV.load (i := 1) na3 rfl rfl rfl rfl) ?_))
  all_goals (first | (refine E.OW.off rfl rfl rfl ?_) | (refine E.OW.pure rfl rfl rfl (E.PV.fieldAddr fa33_5 rfl rfl) ?_))
  all_goals (first | (refine E.OW.off rfl rfl rfl ?_) | (refine E.OW.pure rfl rfl rfl (E.PV.load (i := 0) na3 rfl rfl rfl rfl) ?_))
  all_goals (first | (refine E.OW.off rfl rfl rfl ?_) | (refine E.OW.pure rfl rfl rfl (E.PV.eql rfl rfl rfl) ?_))
  all_goals (first | (refine E.OW.pure rfl rfl rfl (E.PV.pick_t rfl rfl rfl) ?_) | (refine E.OW.pure rfl rfl rfl (E.PV.pick_f rfl rfl rfl) ?_))
  all_goals (refine E.OW.pure rfl rfl rfl (E.PV.move rfl rfl) ?_)
  all_goals (first | (refine E.OW.put 45 (.bool false) (v := .bool false) rfl rfl ?_) | (refine E.OW.split 45 rfl (fun hc => ?_) (fun hc => ?_) <;> (try simp only [E.b0, E.b1, E.b2, E.b3, E.b4, E.b5, E.b6, E.b7, E.b8, E.b9, E.b10, E.b11, E.b12, E.b13, E.b14, E.b15, E.b16, E.b17, E.b18, E.b19, E.b20, reduceCtorEq] at hc) <;> (try (exfalso; first | assumption | contradiction | omega))))
  all_goals (first | (refine E.OW.off rfl rfl rfl ?_) | (refine E.OW.pure rfl rfl rfl (E.PV.fieldAddr fa33_6 rfl rfl) ?_))
  all_goals (first | (refine E.OW.off rfl rfl rfl ?_) | (refine E.OW.pure rfl rfl rfl (E.PV.load (i := 1) na3 rfl rfl rfl rfl) ?_))
  all_goals (first | (refine E.OW.off rfl rfl rfl ?_) | (refine E.OW.pure rfl rfl rfl (E.PV.fieldAddr fa33_6 rfl rfl) ?_))
  all_goals (first | (refine E.OW.off rfl rfl rfl ?_) | (refine E.OW.pure rfl rfl rfl (E.PV.load (i := 0) na3 rfl rfl rfl rfl) ?_))
  all_goals (first | (refine E.OW.off rfl rfl rfl ?_) | (refine E.OW.pure rfl rfl rfl (E.PV.eql rfl rfl rfl) ?_))
  all_goals (first | (refine E.OW.pure rfl rfl rfl (E.PV.pick_t rfl rfl rfl) ?_) | (refine E.OW.pure rfl rfl rfl (E.PV.pick_f rfl rfl rfl) ?_))
  all_goals (refine E.OW.pure rfl rfl rfl (E.PV.move rfl rfl) ?_)
  all_goals (first | (refine E.OW.put 52 (.bool false) (v := .bool false) rfl rfl ?_) | (refine E.OW.split 52 rfl (fun hc => ?_) (fun hc => ?_) <;> (try simp only [E.b0, E.b1, E.b2, E.b3, E.b4, E.b5, E.b6, E.b7, E.b8, E.b9, E.b10, E.b11, E.b12, E.b13, E.b14, E.b15, E.b16, E.b17, E.b18, E.b19, E.b20, reduceCtorEq] at hc) <;> (try (exfalso; first | assumption | contradiction | omega))))
  all_goals (first | (refine E.OW.off rfl rfl rfl ?_) | (refine E.OW.pure rfl rfl rfl (E.PV.fieldAddr fa33_7 rfl rfl) ?_))
  all_goals (first | (refine E.OW.off rfl rfl rfl ?_) | (refine E.OW.pure rfl rfl rfl (E.PV.load (i := 1) na3 rfl rfl rfl rfl) ?_))
  all_goals (first | (refine E.OW.off rfl rfl rfl ?_) | (refine E.OW.pure rfl rfl rfl (E.PV.fieldAddr fa33_7 rfl rfl) ?_))
  all_goals (first | (refine E.OW.off rfl rfl rfl ?_) | (refine E.OW.pure rfl rfl rfl (E.PV.load (i := 0) na3 rfl rfl rfl rfl) ?_))
  all_goals (first | (refine E.OW.off rfl rfl rfl ?_) | (refine E.OW.pure rfl rfl rfl (E.PV.eql rfl rfl rfl) ?_))
  all_goals (first | (refine E.OW.pure rfl rfl rfl (E.PV.pick_t rfl rfl rfl) ?_) | (refine E.OW.pure rfl rfl rfl (E.PV.pick_f rfl rfl rfl) ?_))
  all_goals (refine E.OW.pure rfl rfl rfl (E.PV.assign rfl rfl) ?_)
  all_goals (
    refine E.OW.nil ?_
    refine E.then_n ?_
    refine E.CW.ret ?_
    refine E.KR.one [] Try.results57 rfl rfl ?_
    exact ⟨by simp [Cf.T.ext', *], rfl⟩)

set_option maxRecDepth 100000 in
theorem EqT_ok (A : Option Addr) (c : Nat) (ts : List E.Tm) (A2 : Option Addr) (c2 : Nat) (ts2 : List E.Tm) (w0 : World) (hl : ts.length ≤ 1256584717422) (hX : E.Rd w0 (E.Old w0) A (E.tms ts)) (hY : E.Rd w0 (E.Old w0) A2 (E.tms ts2)) (hm : ∀ m ∈ ts, m.rd w0 (E.Old w0)) (hm2 : ∀ m ∈ ts2, m.rd w0 (E.Old w0)) (hf : ∀ m ∈ ts, m.q.fit) (hf2 : ∀ m ∈ ts2, m.q.fit) :
    Calls Try.prog 56 #[.slice A ts.length c, .slice A2 ts2.length c2, .func (.func 57) #[] #[]] w0 (E.Post w0 (E.Old w0) fun v Hn => v = .bool (decide (ts.map (·.q) = ts2.map (·.q))) ∧ Hn = []) := by
  refine E.calls_of (vs := [.slice A ts.length c, .slice A2 ts2.length c2, .func (.func 57) #[] #[]]) (H := []) Try.func56 Try.ntmps56 rfl rfl (E.HA.start w0) ?_
  refine E.CW.seq ?_
  refine E.CW.region ?_
  refine E.OW.pure rfl rfl rfl (E.PV.assign rfl rfl) ?_
  refine E.OW.nil ?_
  refine E.then_n ?_
  refine E.CW.seq ?_
  refine E.CW.seq ?_
  refine E.CW.region ?_
  refine E.OW.pure rfl rfl rfl (E.PV.move rfl rfl) ?_
  refine E.OW.pure rfl rfl rfl (E.PV.len Try.underlying25 rfl rfl) ?_
  refine E.OW.pure rfl rfl rfl (E.PV.move rfl rfl) ?_
  refine E.OW.pure rfl rfl rfl (E.PV.len Try.underlying25 rfl rfl) ?_
  refine E.OW.pure rfl rfl rfl (E.PV.neq rfl rfl rfl) ?_
  refine E.OW.nil ?_
  refine E.then_n ?_
  refine E.CW.cond rfl (fun hc => ?_) (fun hc => ?_)
  · simp only [E.b0, E.b1, E.b2, E.b3, E.b4, E.b5, E.b6, E.b7, E.b8, E.b9, E.b10, E.b11, E.b12, E.b13, E.b14, E.b15, E.b16, E.b17, E.b18, E.b19, E.b20, reduceCtorEq] at hc
    all_goals (
      refine E.CW.seq ?_
      refine E.CW.region ?_
      refine E.OW.pure rfl rfl rfl (E.PV.assign rfl rfl) ?_
      refine E.OW.nil ?_
      refine E.then_n ?_
      refine E.CW.ret ?_
      refine E.then_ret ?_
      refine E.KR.one [] Try.results56 rfl rfl ?_
      exact ⟨by rw [Cf.map_len (by omega)], rfl⟩)
  · simp only [E.b0, E.b1, E.b2, E.b3, E.b4, E.b5, E.b6, E.b7, E.b8, E.b9, E.b10, E.b11, E.b12, E.b13, E.b14, E.b15, E.b16, E.b17, E.b18, E.b19, E.b20, reduceCtorEq] at hc
    all_goals (
      refine E.CW.skip ?_
      refine E.then_n ?_
      refine E.CW.seq ?_
      refine E.CW.seq ?_
      refine E.CW.region ?_
      refine E.OW.pure rfl rfl rfl (E.PV.move rfl rfl) ?_
      refine E.OW.pure rfl rfl rfl (E.PV.len Try.underlying25 rfl rfl) ?_
      refine E.OW.pure rfl rfl rfl (E.PV.move rfl rfl) ?_
      refine E.OW.nil ?_
      refine E.then_n ?_
      refine E.CW.block ?_
      refine E.CW.loopk [1, 2, 15, 16] 0 rfl rfl (fun mm mods Hm => ∃ k : Nat, mm = ts.length - k ∧ mods = [(17, .int .i64 k)] ∧ Hm = [] ∧ (k ≤ ts.length ∧ ∀ j, j < k → (ts.getD j E.Tm.z).q = (ts2.getD j E.Tm.z).q)) (ts.length) ?_ ?_
      · exact ⟨[(17, _)], (by repeat (first | exact E.cov_nil | refine ⟨rfl, ?_⟩)), 0, rfl, rfl, rfl, by omega, fun j hj => by omega⟩
      · rintro _ _ _ ⟨k, rfl, rfl, rfl, hk, hI⟩
        refine E.CW.seq ?_
        refine E.CW.region ?_
        refine E.OW.pure rfl rfl rfl (E.PV.lss rfl rfl rfl) ?_
        refine E.OW.nil ?_
        refine E.then_n ?_
        refine E.CW.seq ?_
        refine E.CW.cond rfl (fun hc => ?_) (fun hc => ?_)
        · simp only [E.b0, E.b1, E.b2, E.b3, E.b4, E.b5, E.b6, E.b7, E.b8, E.b9, E.b10, E.b11, E.b12, E.b13, E.b14, E.b15, E.b16, E.b17, E.b18, E.b19, E.b20, reduceCtorEq] at hc
          all_goals (
            refine E.CW.skip ?_
            refine E.then_n ?_
            refine E.CW.seq ?_
            refine E.CW.block ?_
            refine E.CW.seq ?_
            refine E.CW.region ?_
            refine E.OW.pure rfl rfl rfl (E.PV.move rfl rfl) ?_
            refine E.OW.pure rfl rfl rfl (E.PV.indexAddr (E.rdc hX) Try.underlying25 in33 rfl rfl rfl rfl ?_ ?_ (by decide)) ?_; (focus (first | (simp; done) | (simp; omega))); (focus (omega))
            refine E.OW.pure rfl rfl rfl (E.PV.load_tm (E.rdc hX) is33 rfl rfl ?_) ?_; (focus (omega))
            refine E.OW.alloc (in33.zr) rfl rfl rfl rfl rfl (fun B1 => ?_)
            refine E.OW.pure rfl rfl rfl (E.PV.assign rfl rfl) ?_
            refine E.OW.store (i := 0) in33.size rfl rfl rfl rfl rfl rfl rfl rfl rfl ?_
            refine E.OW.nil ?_
            refine E.then_n ?_
            refine E.CW.seq ?_
            refine E.CW.region ?_
            refine E.OW.pure rfl rfl rfl (E.PV.move rfl rfl) ?_
            refine E.OW.pure rfl rfl rfl (E.PV.move rfl rfl) ?_
            refine E.OW.pure rfl rfl rfl (E.PV.indexAddr (E.rdc hY) Try.underlying25 in33 rfl rfl rfl rfl ?_ ?_ (by decide)) ?_; (focus (first | (simp; done) | (simp; omega))); (focus (omega))
            refine E.OW.pure rfl rfl rfl (E.PV.load_tm (E.rdc hY) is33 rfl rfl ?_) ?_; (focus (omega))
            refine E.OW.alloc (in33.zr) rfl rfl rfl rfl rfl (fun B2 => ?_)
            refine E.OW.store (i := 0) in33.size rfl rfl rfl rfl rfl rfl rfl rfl rfl ?_
            refine E.OW.nil ?_
            refine E.then_n ?_
            refine E.CW.seq ?_
            refine E.CW.region ?_
            refine E.OW.pure rfl rfl rfl (E.PV.move rfl rfl) ?_
            refine E.OW.pure rfl rfl rfl (E.PV.loads (i := 1) is33 rfl rfl rfl rfl) ?_
            refine E.OW.pure rfl rfl rfl (E.PV.loads (i := 0) is33 rfl rfl rfl rfl) ?_
            (refine E.OW.call nm57 rfl rfl rfl rfl rfl rfl _ (fun w hw => sameTeam_ok (ts.getD k E.Tm.z) (ts2.getD k E.Tm.z) w (hw.rdm (hm _ (E.Tm.mem (by omega)))) (hw.rdm (hm2 _ (E.Tm.mem (by omega)))) (hf _ (E.Tm.mem (by omega))) (hf2 _ (E.Tm.mem (by omega)))) ?_; rintro _ _ ⟨rfl, rfl⟩)
            refine E.OW.pure rfl rfl rfl (E.PV.not rfl rfl) ?_
            refine E.OW.nil ?_
            refine E.then_n ?_
            refine E.CW.cond rfl (fun hc => ?_) (fun hc => ?_)
            · simp only [E.b0, E.b1, E.b2, E.b3, E.b4, E.b5, E.b6, E.b7, E.b8, E.b9, E.b10, E.b11, E.b12, E.b13, E.b14, E.b15, E.b16, E.b17, E.b18, E.b19, E.b20, reduceCtorEq] at hc
              all_goals (
                refine E.CW.seq ?_
                refine E.CW.region ?_
                refine E.OW.pure rfl rfl rfl (E.PV.assign rfl rfl) ?_
                refine E.OW.nil ?_
                refine E.then_n ?_
                refine E.CW.ret ?_
                refine E.blk_ret ?_
                refine E.then_ret ?_
                refine E.then_ret ?_
                refine E.blk_ret ?_
                refine E.then_ret ?_
                refine E.KR.one [] Try.results56 rfl rfl ?_
                exact ⟨by rw [Cf.map_ne (k := k) (z := E.Tm.z) (by omega) (by omega) (by assumption)], rfl⟩)
            · simp only [E.b0, E.b1, E.b2, E.b3, E.b4, E.b5, E.b6, E.b7, E.b8, E.b9, E.b10, E.b11, E.b12, E.b13, E.b14, E.b15, E.b16, E.b17, E.b18, E.b19, E.b20, reduceCtorEq] at hc
              all_goals (
                refine E.CW.skip ?_
                refine E.blk_n ?_
                refine E.then_n ?_
                refine E.CW.region ?_
                refine E.OW.pure rfl rfl rfl (E.PV.add_i64 rfl rfl rfl ?_) ?_; (focus (omega))
                refine E.OW.pure rfl rfl rfl (E.PV.move rfl rfl) ?_
                refine E.OW.nil ?_
                refine E.then_nf ?_
                refine ⟨_, [(17, _)], [], _, ?_, by repeat (first | exact E.cov_nil | refine ⟨rfl, ?_⟩), rfl, k + 1, rfl, rfl, rfl, by omega, Cf.upto' (f := E.Tm.q) hI (by assumption)⟩
                omega))
        · simp only [E.b0, E.b1, E.b2, E.b3, E.b4, E.b5, E.b6, E.b7, E.b8, E.b9, E.b10, E.b11, E.b12, E.b13, E.b14, E.b15, E.b16, E.b17, E.b18, E.b19, E.b20, reduceCtorEq] at hc
          all_goals (
            refine E.CW.exit ?_
            refine E.then_x ?_
            refine E.then_x ?_
            refine E.blk_eq ?_
            refine E.then_n ?_
            refine E.CW.seq ?_
            refine E.CW.region ?_
            refine E.OW.pure rfl rfl rfl (E.PV.assign rfl rfl) ?_
            refine E.OW.nil ?_
            refine E.then_n ?_
            refine E.CW.ret ?_
            refine E.KR.one [] Try.results56 rfl rfl ?_
            exact ⟨by rw [Cf.map_eq (f := E.Tm.q) (z := E.Tm.z) (by omega) (fun j hj => hI j (by omega))], rfl⟩))

set_option maxRecDepth 100000 in
theorem Same_ok (g h : E.Cfg) (w0 : World) (hg : g.rd w0 (E.Old w0)) (hh : h.rd w0 (E.Old w0)) (hgf : g.q.fit) (hhf : h.q.fit) :
    Calls Try.prog 19 #[g.v, h.v] w0 (E.Post w0 (E.Old w0) fun v Hn => v = .bool (decide (g.q = h.q)) ∧ Hn = []) := by
  obtain ⟨hX1, hX2, hX3, hX4⟩ := id hg
  obtain ⟨hY1, hY2, hY3, hY4⟩ := id hh
  have hgl := E.Cfg.fit_len hgf
  have hhl := E.Cfg.fit_len hhf
  refine E.calls_of (vs := [g.v, h.v]) (H := []) Try.func19 Try.ntmps19 rfl rfl (E.HA.start w0) ?_
  refine E.CW.seq ?_
  refine E.CW.region ?_
  refine E.OW.box rfl rfl rfl rfl rfl rfl (fun B1 => ?_)
  refine E.OW.box rfl rfl rfl rfl rfl rfl (fun B2 => ?_)
  refine E.OW.pure rfl rfl rfl (E.PV.assign rfl rfl) ?_
  refine E.OW.nil ?_
  refine E.then_n ?_
  refine E.CW.seq ?_
  refine E.CW.region ?_
  refine E.OW.pure rfl rfl rfl (E.PV.fieldAddr fa28_0 rfl rfl) ?_
  refine E.OW.pure rfl rfl rfl (E.PV.fieldAddr fa24_0 rfl rfl) ?_
  refine E.OW.pure rfl rfl rfl (E.PV.load (i := 1) na3 rfl rfl rfl rfl) ?_
  refine E.OW.pure rfl rfl rfl (E.PV.fieldAddr fa28_0 rfl rfl) ?_
  refine E.OW.pure rfl rfl rfl (E.PV.fieldAddr fa24_0 rfl rfl) ?_
  refine E.OW.pure rfl rfl rfl (E.PV.load (i := 0) na3 rfl rfl rfl rfl) ?_
  refine E.OW.pure rfl rfl rfl (E.PV.eql rfl rfl rfl) ?_
  refine E.OW.pure rfl rfl rfl (E.PV.move rfl rfl) ?_
  all_goals (refine E.OW.split 12 rfl (fun hc => ?_) (fun hc => ?_) <;> (try simp only [E.b0, E.b1, E.b2, E.b3, E.b4, E.b5, E.b6, E.b7, E.b8, E.b9, E.b10, E.b11, E.b12, E.b13, E.b14, E.b15, E.b16, E.b17, E.b18, E.b19, E.b20, reduceCtorEq] at hc) <;> (try (exfalso; first | assumption | contradiction | omega)))
  all_goals (first | (refine E.OW.off rfl rfl rfl ?_) | (refine E.OW.pure rfl rfl rfl (E.PV.fieldAddr fa28_0 rfl rfl) ?_))
  all_goals (first | (refine E.OW.off rfl rfl rfl ?_) | (refine E.OW.pure rfl rfl rfl (E.PV.fieldAddr fa24_1 rfl rfl) ?_))
  all_goals (first | (refine E.OW.off rfl rfl rfl ?_) | (refine E.OW.pure rfl rfl rfl (E.PV.load (i := 1) na3 rfl rfl rfl rfl) ?_))
  all_goals (first | (refine E.OW.off rfl rfl rfl ?_) | (refine E.OW.pure rfl rfl rfl (E.PV.fieldAddr fa28_0 rfl rfl) ?_))
  all_goals (first | (refine E.OW.off rfl rfl rfl ?_) | (refine E.OW.pure rfl rfl rfl (E.PV.fieldAddr fa24_1 rfl rfl) ?_))
  all_goals (first | (refine E.OW.off rfl rfl rfl ?_) | (refine E.OW.pure rfl rfl rfl (E.PV.load (i := 0) na3 rfl rfl rfl rfl) ?_))
  all_goals (first | (refine E.OW.off rfl rfl rfl ?_) | (refine E.OW.pure rfl rfl rfl (E.PV.eql rfl rfl rfl) ?_))
  all_goals (first | (refine E.OW.pure rfl rfl rfl (E.PV.pick_t rfl rfl rfl) ?_) | (refine E.OW.pure rfl rfl rfl (E.PV.pick_f rfl rfl rfl) ?_))
  all_goals (refine E.OW.pure rfl rfl rfl (E.PV.move rfl rfl) ?_)
  all_goals (first | (refine E.OW.put 21 (.bool false) (v := .bool false) rfl rfl ?_) | (refine E.OW.split 21 rfl (fun hc => ?_) (fun hc => ?_) <;> (try simp only [E.b0, E.b1, E.b2, E.b3, E.b4, E.b5, E.b6, E.b7, E.b8, E.b9, E.b10, E.b11, E.b12, E.b13, E.b14, E.b15, E.b16, E.b17, E.b18, E.b19, E.b20, reduceCtorEq] at hc) <;> (try (exfalso; first | assumption | contradiction | omega))))
  all_goals (first | (refine E.OW.off rfl rfl rfl ?_) | (refine E.OW.pure rfl rfl rfl (E.PV.fieldAddr fa28_0 rfl rfl) ?_))
  all_goals (first | (refine E.OW.off rfl rfl rfl ?_) | (refine E.OW.pure rfl rfl rfl (E.PV.fieldAddr fa24_2 rfl rfl) ?_))
  all_goals (first | (refine E.OW.off rfl rfl rfl ?_) | (refine E.OW.pure rfl rfl rfl (E.PV.load (i := 1) na22 rfl rfl rfl rfl) ?_))
  all_goals (first | (refine E.OW.off rfl rfl rfl ?_) | (refine E.OW.pure rfl rfl rfl (E.PV.fieldAddr fa28_0 rfl rfl) ?_))
  all_goals (first | (refine E.OW.off rfl rfl rfl ?_) | (refine E.OW.pure rfl rfl rfl (E.PV.fieldAddr fa24_2 rfl rfl) ?_))
  all_goals (first | (refine E.OW.off rfl rfl rfl ?_) | (refine E.OW.pure rfl rfl rfl (E.PV.load (i := 0) na22 rfl rfl rfl rfl) ?_))
  all_goals (first | (refine E.OW.off rfl rfl rfl ?_) | ((refine E.OW.call nm55 rfl rfl rfl rfl rfl rfl _ (fun w hw => EqU_ok _ _ g.l _ _ h.l w ?_ ?_ ?_) ?_; (focus (omega)); (focus (refine hw.rd ?_; assumption)); (focus (refine hw.rd ?_; assumption)); rintro _ _ ⟨rfl, rfl⟩)))
  all_goals (first | (refine E.OW.pure rfl rfl rfl (E.PV.pick_t rfl rfl rfl) ?_) | (refine E.OW.pure rfl rfl rfl (E.PV.pick_f rfl rfl rfl) ?_))
  all_goals (refine E.OW.pure rfl rfl rfl (E.PV.move rfl rfl) ?_)
  all_goals (first | (refine E.OW.put 30 (.bool false) (v := .bool false) rfl rfl ?_) | (refine E.OW.split 30 rfl (fun hc => ?_) (fun hc => ?_) <;> (try simp only [E.b0, E.b1, E.b2, E.b3, E.b4, E.b5, E.b6, E.b7, E.b8, E.b9, E.b10, E.b11, E.b12, E.b13, E.b14, E.b15, E.b16, E.b17, E.b18, E.b19, E.b20, reduceCtorEq] at hc) <;> (try (exfalso; first | assumption | contradiction | omega))))
  all_goals (first | (refine E.OW.off rfl rfl rfl ?_) | (refine E.OW.pure rfl rfl rfl (E.PV.fieldAddr fa28_1 rfl rfl) ?_))
  all_goals (first | (refine E.OW.off rfl rfl rfl ?_) | (refine E.OW.pure rfl rfl rfl (E.PV.load (i := 1) na22 rfl rfl rfl rfl) ?_))
  all_goals (first | (refine E.OW.off rfl rfl rfl ?_) | (refine E.OW.pure rfl rfl rfl (E.PV.fieldAddr fa28_1 rfl rfl) ?_))
  all_goals (first | (refine E.OW.off rfl rfl rfl ?_) | (refine E.OW.pure rfl rfl rfl (E.PV.load (i := 0) na22 rfl rfl rfl rfl) ?_))
  all_goals (first | (refine E.OW.off rfl rfl rfl ?_) | ((refine E.OW.call nm55 rfl rfl rfl rfl rfl rfl _ (fun w hw => EqU_ok _ _ g.s _ _ h.s w ?_ ?_ ?_) ?_; (focus (omega)); (focus (refine hw.rd ?_; assumption)); (focus (refine hw.rd ?_; assumption)); rintro _ _ ⟨rfl, rfl⟩)))
  all_goals (first | (refine E.OW.pure rfl rfl rfl (E.PV.pick_t rfl rfl rfl) ?_) | (refine E.OW.pure rfl rfl rfl (E.PV.pick_f rfl rfl rfl) ?_))
  all_goals (refine E.OW.pure rfl rfl rfl (E.PV.move rfl rfl) ?_)
  all_goals (first | (refine E.OW.put 37 (.bool false) (v := .bool false) rfl rfl ?_) | (refine E.OW.split 37 rfl (fun hc => ?_) (fun hc => ?_) <;> (try simp only [E.b0, E.b1, E.b2, E.b3, E.b4, E.b5, E.b6, E.b7, E.b8, E.b9, E.b10, E.b11, E.b12, E.b13, E.b14, E.b15, E.b16, E.b17, E.b18, E.b19, E.b20, reduceCtorEq] at hc) <;> (try (exfalso; first | assumption | contradiction | omega))))
  all_goals (first | (refine E.OW.off rfl rfl rfl ?_) | (refine E.OW.pure rfl rfl rfl (E.PV.fieldAddr fa28_2 rfl rfl) ?_))
  all_goals (first | (refine E.OW.off rfl rfl rfl ?_) | (refine E.OW.pure rfl rfl rfl (E.PV.load (i := 1) na25 rfl rfl rfl rfl) ?_))
  all_goals (first | (refine E.OW.off rfl rfl rfl ?_) | (refine E.OW.pure rfl rfl rfl (E.PV.fieldAddr fa28_2 rfl rfl) ?_))
  all_goals (first | (refine E.OW.off rfl rfl rfl ?_) | (refine E.OW.pure rfl rfl rfl (E.PV.load (i := 0) na25 rfl rfl rfl rfl) ?_))
  all_goals (first | (refine E.OW.off rfl rfl rfl ?_) | ((refine E.OW.call nm56 rfl rfl rfl rfl rfl rfl _ (fun w hw => EqT_ok _ _ g.ts _ _ h.ts w ?_ ?_ ?_ (fun m hm => hw.rdm (hg.m m hm)) (fun m hm => hw.rdm (hh.m m hm)) (E.Cfg.fit_m hgf) (E.Cfg.fit_m hhf)) ?_; (focus (omega)); (focus (refine hw.rd ?_; assumption)); (focus (refine hw.rd ?_; assumption)); rintro _ _ ⟨rfl, rfl⟩)))
  all_goals (first | (refine E.OW.pure rfl rfl rfl (E.PV.pick_t rfl rfl rfl) ?_) | (refine E.OW.pure rfl rfl rfl (E.PV.pick_f rfl rfl rfl) ?_))
  all_goals (refine E.OW.pure rfl rfl rfl (E.PV.move rfl rfl) ?_)
  all_goals (first | (refine E.OW.put 44 (.bool false) (v := .bool false) rfl rfl ?_) | (refine E.OW.split 44 rfl (fun hc => ?_) (fun hc => ?_) <;> (try simp only [E.b0, E.b1, E.b2, E.b3, E.b4, E.b5, E.b6, E.b7, E.b8, E.b9, E.b10, E.b11, E.b12, E.b13, E.b14, E.b15, E.b16, E.b17, E.b18, E.b19, E.b20, reduceCtorEq] at hc) <;> (try (exfalso; first | assumption | contradiction | omega))))
  all_goals (first | (refine E.OW.off rfl rfl rfl ?_) | (refine E.OW.pure rfl rfl rfl (E.PV.fieldAddr fa28_3 rfl rfl) ?_))
  all_goals (first | (refine E.OW.off rfl rfl rfl ?_) | (refine E.OW.pure rfl rfl rfl (E.PV.load (i := 1) na26 rfl rfl rfl rfl) ?_))
  all_goals (first | (refine E.OW.off rfl rfl rfl ?_) | (refine E.OW.pure rfl rfl rfl (E.PV.fieldAddr fa28_3 rfl rfl) ?_))
  all_goals (first | (refine E.OW.off rfl rfl rfl ?_) | (refine E.OW.pure rfl rfl rfl (E.PV.load (i := 0) na26 rfl rfl rfl rfl) ?_))
  all_goals (first | (refine E.OW.off rfl rfl rfl ?_) | (refine E.OW.pure rfl rfl rfl (E.PV.eql rfl rfl rfl) ?_))
  all_goals (first | (refine E.OW.pure rfl rfl rfl (E.PV.pick_t rfl rfl rfl) ?_) | (refine E.OW.pure rfl rfl rfl (E.PV.pick_f rfl rfl rfl) ?_))
  all_goals (refine E.OW.pure rfl rfl rfl (E.PV.assign rfl rfl) ?_)
  all_goals (
    refine E.OW.nil ?_
    refine E.then_n ?_
    refine E.CW.ret ?_
    refine E.KR.one [] Try.results19 rfl rfl ?_
    exact ⟨by simp [E.Cfg.q_eq, *], rfl⟩)

set_option maxRecDepth 100000 in
theorem rSameInts_ok (A : Option Addr) (c : Nat) (l : List Int) (A2 : Option Addr) (c2 : Nat) (l2 : List Int) (w0 : World) (hl : l.length ≤ 140737488355328) (hX : E.Rd w0 (E.Old w0) A (E.ints l)) (hY : E.Rd w0 (E.Old w0) A2 (E.ints l2)) :
    Calls Try.prog 26 #[.slice A l.length c, .slice A2 l2.length c2] w0 (E.Post w0 (E.Old w0) fun v Hn => v = .bool (decide (l = l2)) ∧ Hn = []) := by
  refine E.calls_of (vs := [.slice A l.length c, .slice A2 l2.length c2]) (H := []) Try.func26 Try.ntmps26 rfl rfl (E.HA.start w0) ?_
  refine E.CW.seq ?_
  refine E.CW.region ?_
  refine E.OW.pure rfl rfl rfl (E.PV.assign rfl rfl) ?_
  refine E.OW.nil ?_
  refine E.then_n ?_
  refine E.CW.seq ?_
  refine E.CW.seq ?_
  refine E.CW.region ?_
  refine E.OW.pure rfl rfl rfl (E.PV.move rfl rfl) ?_
  refine E.OW.pure rfl rfl rfl (E.PV.len Try.underlying31 rfl rfl) ?_
  refine E.OW.pure rfl rfl rfl (E.PV.move rfl rfl) ?_
  refine E.OW.pure rfl rfl rfl (E.PV.len Try.underlying31 rfl rfl) ?_
  refine E.OW.pure rfl rfl rfl (E.PV.neq rfl rfl rfl) ?_
  refine E.OW.nil ?_
  refine E.then_n ?_
  refine E.CW.cond rfl (fun hc => ?_) (fun hc => ?_)
  · simp only [E.b0, E.b1, E.b2, E.b3, E.b4, E.b5, E.b6, E.b7, E.b8, E.b9, E.b10, E.b11, E.b12, E.b13, E.b14, E.b15, E.b16, E.b17, E.b18, E.b19, E.b20, reduceCtorEq] at hc
    all_goals (
      refine E.CW.seq ?_
      refine E.CW.region ?_
      refine E.OW.pure rfl rfl rfl (E.PV.assign rfl rfl) ?_
      refine E.OW.nil ?_
      refine E.then_n ?_
      refine E.CW.ret ?_
      refine E.then_ret ?_
      refine E.KR.one [] Try.results26 rfl rfl ?_
      exact ⟨by rw [Fl.ne_len (by omega)], rfl⟩)
  · simp only [E.b0, E.b1, E.b2, E.b3, E.b4, E.b5, E.b6, E.b7, E.b8, E.b9, E.b10, E.b11, E.b12, E.b13, E.b14, E.b15, E.b16, E.b17, E.b18, E.b19, E.b20, reduceCtorEq] at hc
    all_goals (
      refine E.CW.skip ?_
      refine E.then_n ?_
      refine E.CW.seq ?_
      refine E.CW.seq ?_
      refine E.CW.region ?_
      refine E.OW.pure rfl rfl rfl (E.PV.assign rfl rfl) ?_
      refine E.OW.nil ?_
      refine E.then_n ?_
      refine E.CW.block ?_
      refine E.CW.loopk [0, 1] 0 rfl rfl (fun mm mods Hm => ∃ k : Nat, mm = l.length - k ∧ mods = [(5, .int .i64 k)] ∧ Hm = [] ∧ (k ≤ l.length ∧ ∀ j, j < k → l.getD j 0 = l2.getD j 0)) (l.length) ?_ ?_
      · exact ⟨[(5, _)], (by repeat (first | exact E.cov_nil | refine ⟨rfl, ?_⟩)), 0, rfl, rfl, rfl, by omega, fun j hj => by omega⟩
      · rintro _ _ _ ⟨k, rfl, rfl, rfl, hk, hI⟩
        refine E.CW.seq ?_
        refine E.CW.seq ?_
        refine E.CW.region ?_
        refine E.OW.pure rfl rfl rfl (E.PV.move rfl rfl) ?_
        refine E.OW.pure rfl rfl rfl (E.PV.move rfl rfl) ?_
        refine E.OW.pure rfl rfl rfl (E.PV.len Try.underlying31 rfl rfl) ?_
        refine E.OW.pure rfl rfl rfl (E.PV.lss rfl rfl rfl) ?_
        refine E.OW.nil ?_
        refine E.then_n ?_
        refine E.CW.cond rfl (fun hc => ?_) (fun hc => ?_)
        · simp only [E.b0, E.b1, E.b2, E.b3, E.b4, E.b5, E.b6, E.b7, E.b8, E.b9, E.b10, E.b11, E.b12, E.b13, E.b14, E.b15, E.b16, E.b17, E.b18, E.b19, E.b20, reduceCtorEq] at hc
          all_goals (
            refine E.CW.skip ?_
            refine E.then_n ?_
            refine E.CW.seq ?_
            refine E.CW.block ?_
            refine E.CW.seq ?_
            refine E.CW.draw mixed (by kernel_rfl) ?_
            refine E.QW.pure rfl rfl rfl (E.PV.move rfl rfl) ?_
            refine E.QW.pure rfl rfl rfl (E.PV.move rfl rfl) ?_
            refine E.QW.pure rfl rfl rfl (E.PV.indexAddr1 (E.rdc hX) Try.underlying31 in3 rfl rfl rfl rfl ?_ ?_) ?_; (focus (first | (simp; done) | (simp; omega))); (focus (omega))
            refine E.QW.pure rfl rfl rfl (E.PV.load_int (E.rdc hX) na3 rfl rfl ?_) ?_; (focus (omega))
            refine E.QW.pure rfl rfl rfl (E.PV.move rfl rfl) ?_
            refine E.QW.pure rfl rfl rfl (E.PV.move rfl rfl) ?_
            refine E.QW.pure rfl rfl rfl (E.PV.indexAddr1 (E.rdc hY) Try.underlying31 in3 rfl rfl rfl rfl ?_ ?_) ?_; (focus (first | (simp; done) | (simp; omega))); (focus (omega))
            refine E.QW.pure rfl rfl rfl (E.PV.load_int (E.rdc hY) na3 rfl rfl ?_) ?_; (focus (omega))
            refine E.QW.pure rfl rfl rfl (E.PV.neq rfl rfl rfl) ?_
            refine E.QW.nil ?_
            refine E.then_n ?_
            refine E.CW.cond rfl (fun hc => ?_) (fun hc => ?_)
            · simp only [E.b0, E.b1, E.b2, E.b3, E.b4, E.b5, E.b6, E.b7, E.b8, E.b9, E.b10, E.b11, E.b12, E.b13, E.b14, E.b15, E.b16, E.b17, E.b18, E.b19, E.b20, reduceCtorEq] at hc
              all_goals (
                refine E.CW.seq ?_
                refine E.CW.region ?_
                refine E.OW.pure rfl rfl rfl (E.PV.assign rfl rfl) ?_
                refine E.OW.nil ?_
                refine E.then_n ?_
                refine E.CW.ret ?_
                refine E.blk_ret ?_
                refine E.then_ret ?_
                refine E.then_ret ?_
                refine E.blk_ret ?_
                refine E.then_ret ?_
                refine E.KR.one [] Try.results26 rfl rfl ?_
                exact ⟨by rw [Fl.ne_at (by assumption)], rfl⟩)
            · simp only [E.b0, E.b1, E.b2, E.b3, E.b4, E.b5, E.b6, E.b7, E.b8, E.b9, E.b10, E.b11, E.b12, E.b13, E.b14, E.b15, E.b16, E.b17, E.b18, E.b19, E.b20, reduceCtorEq] at hc
              all_goals (
                refine E.CW.skip ?_
                refine E.blk_n ?_
                refine E.then_n ?_
                refine E.CW.region ?_
                refine E.OW.pure rfl rfl rfl (E.PV.move rfl rfl) ?_
                refine E.OW.pure rfl rfl rfl (E.PV.add_i64 rfl rfl rfl ?_) ?_; (focus (omega))
                refine E.OW.pure rfl rfl rfl (E.PV.assign rfl rfl) ?_
                refine E.OW.nil ?_
                refine E.then_nf ?_
                refine ⟨_, [(5, _)], [], _, ?_, by repeat (first | exact E.cov_nil | refine ⟨rfl, ?_⟩), rfl, k + 1, rfl, rfl, rfl, by omega, fun j hj => by
    rcases Nat.lt_succ_iff_lt_or_eq.1 hj with h | rfl
    · exact hI j h
    · assumption⟩
                omega))
        · simp only [E.b0, E.b1, E.b2, E.b3, E.b4, E.b5, E.b6, E.b7, E.b8, E.b9, E.b10, E.b11, E.b12, E.b13, E.b14, E.b15, E.b16, E.b17, E.b18, E.b19, E.b20, reduceCtorEq] at hc
          all_goals (
            refine E.CW.exit ?_
            refine E.then_x ?_
            refine E.then_x ?_
            refine E.blk_eq ?_
            refine E.then_n ?_
            refine E.CW.seq ?_
            refine E.CW.region ?_
            refine E.OW.pure rfl rfl rfl (E.PV.assign rfl rfl) ?_
            refine E.OW.nil ?_
            refine E.then_n ?_
            refine E.CW.ret ?_
            refine E.KR.one [] Try.results26 rfl rfl ?_
            exact ⟨by rw [Fl.eq_at (by omega) (fun j hj => hI j (by omega))], rfl⟩))

set_option maxRecDepth 100000 in
theorem rSame_ok (a b : Int) (A : Option Addr) (c : Nat) (l : List UInt8) (a2 b2 : Int) (A2 : Option Addr) (c2 : Nat) (l2 : List UInt8) (w0 : World) (hX : E.Rd w0 (E.Old w0) A (E.u8s l)) (hY : E.Rd w0 (E.Old w0) A2 (E.u8s l2)) :
    Calls Try.prog 58 #[.agg #[.int .i64 a, .int .i64 b, .slice A l.length c], .agg #[.int .i64 a2, .int .i64 b2, .slice A2 l2.length c2]] w0 (E.Post w0 (E.Old w0) fun v Hn => v = .bool (decide (a = a2) && decide (b = b2) && decide (l = l2)) ∧ Hn = []) := by
  refine E.calls_of (vs := [.agg #[.int .i64 a, .int .i64 b, .slice A l.length c], .agg #[.int .i64 a2, .int .i64 b2, .slice A2 l2.length c2]]) (H := []) Try.func58 Try.ntmps58 rfl rfl (E.HA.start w0) ?_
  refine E.CW.seq ?_
  refine E.CW.region ?_
  refine E.OW.box rfl rfl rfl rfl rfl rfl (fun B1 => ?_)
  refine E.OW.box rfl rfl rfl rfl rfl rfl (fun B2 => ?_)
  refine E.OW.pure rfl rfl rfl (E.PV.assign rfl rfl) ?_
  refine E.OW.nil ?_
  refine E.then_n ?_
  refine E.CW.seq ?_
  refine E.CW.region ?_
  refine E.OW.pure rfl rfl rfl (E.PV.fieldAddr fa24_0 rfl rfl) ?_
  refine E.OW.pure rfl rfl rfl (E.PV.load (i := 1) na3 rfl rfl rfl rfl) ?_
  refine E.OW.pure rfl rfl rfl (E.PV.fieldAddr fa24_0 rfl rfl) ?_
  refine E.OW.pure rfl rfl rfl (E.PV.load (i := 0) na3 rfl rfl rfl rfl) ?_
  refine E.OW.pure rfl rfl rfl (E.PV.eql rfl rfl rfl) ?_
  refine E.OW.pure rfl rfl rfl (E.PV.move rfl rfl) ?_
  all_goals (refine E.OW.split 10 rfl (fun hc => ?_) (fun hc => ?_) <;> (try simp only [E.b0, E.b1, E.b2, E.b3, E.b4, E.b5, E.b6, E.b7, E.b8, E.b9, E.b10, E.b11, E.b12, E.b13, E.b14, E.b15, E.b16, E.b17, E.b18, E.b19, E.b20, reduceCtorEq] at hc) <;> (try (exfalso; first | assumption | contradiction | omega)))
  all_goals (first | (refine E.OW.off rfl rfl rfl ?_) | (refine E.OW.pure rfl rfl rfl (E.PV.fieldAddr fa24_1 rfl rfl) ?_))
  all_goals (first | (refine E.OW.off rfl rfl rfl ?_) | (refine E.OW.pure rfl rfl rfl (E.PV.load (i := 1) na3 rfl rfl rfl rfl) ?_))
  all_goals (first | (refine E.OW.off rfl rfl rfl ?_) | (refine E.OW.pure rfl rfl rfl (E.PV.fieldAddr fa24_1 rfl rfl) ?_))
  all_goals (first | (refine E.OW.off rfl rfl rfl ?_) | (refine E.OW.pure rfl rfl rfl (E.PV.load (i := 0) na3 rfl rfl rfl rfl) ?_))
  all_goals (first | (refine E.OW.off rfl rfl rfl ?_) | (refine E.OW.pure rfl rfl rfl (E.PV.eql rfl rfl rfl) ?_))
  all_goals (first | (refine E.OW.pure rfl rfl rfl (E.PV.pick_t rfl rfl rfl) ?_) | (refine E.OW.pure rfl rfl rfl (E.PV.pick_f rfl rfl rfl) ?_))
  all_goals (refine E.OW.pure rfl rfl rfl (E.PV.move rfl rfl) ?_)
  all_goals (first | (refine E.OW.put 17 (.bool false) (v := .bool false) rfl rfl ?_) | (refine E.OW.split 17 rfl (fun hc => ?_) (fun hc => ?_) <;> (try simp only [E.b0, E.b1, E.b2, E.b3, E.b4, E.b5, E.b6, E.b7, E.b8, E.b9, E.b10, E.b11, E.b12, E.b13, E.b14, E.b15, E.b16, E.b17, E.b18, E.b19, E.b20, reduceCtorEq] at hc) <;> (try (exfalso; first | assumption | contradiction | omega))))
  all_goals (first | (refine E.OW.off rfl rfl rfl ?_) | (refine E.OW.pure rfl rfl rfl (E.PV.fieldAddr fa24_2 rfl rfl) ?_))
  all_goals (first | (refine E.OW.off rfl rfl rfl ?_) | (refine E.OW.pure rfl rfl rfl (E.PV.load (i := 1) na22 rfl rfl rfl rfl) ?_))
  all_goals (first | (refine E.OW.off rfl rfl rfl ?_) | (refine E.OW.pure rfl rfl rfl (E.PV.b2s Try.underlying22 Try.underlying5 Try.underlying9 (E.rdc hX) ?_ rfl rfl) ?_; (focus (simp))))
  all_goals (first | (refine E.OW.off rfl rfl rfl ?_) | (refine E.OW.pure rfl rfl rfl (E.PV.fieldAddr fa24_2 rfl rfl) ?_))
  all_goals (first | (refine E.OW.off rfl rfl rfl ?_) | (refine E.OW.pure rfl rfl rfl (E.PV.load (i := 0) na22 rfl rfl rfl rfl) ?_))
  all_goals (first | (refine E.OW.off rfl rfl rfl ?_) | (refine E.OW.pure rfl rfl rfl (E.PV.b2s Try.underlying22 Try.underlying5 Try.underlying9 (E.rdc hY) ?_ rfl rfl) ?_; (focus (simp))))
  all_goals (first | (refine E.OW.off rfl rfl rfl ?_) | (refine E.OW.pure rfl rfl rfl (E.PV.seq rfl rfl rfl) ?_))
  all_goals (first | (refine E.OW.pure rfl rfl rfl (E.PV.pick_t rfl rfl rfl) ?_) | (refine E.OW.pure rfl rfl rfl (E.PV.pick_f rfl rfl rfl) ?_))
  all_goals (refine E.OW.pure rfl rfl rfl (E.PV.assign rfl rfl) ?_)
  all_goals (
    refine E.OW.nil ?_
    refine E.then_n ?_
    refine E.CW.ret ?_
    refine E.KR.one [] Try.results58 rfl rfl ?_
    exact ⟨by simp [*], rfl⟩)

set_option maxRecDepth 100000 in
theorem rTwin_ok (a b : Int) (A : Option Addr) (c : Nat) (l : List UInt8) (w0 : World) (hl : l.length ≤ 140737488355328) (hX : E.Rd w0 (E.Old w0) A (E.u8s l)) :
    Calls Try.prog 59 #[.agg #[.int .i64 a, .int .i64 b, .slice A l.length c]] w0 (E.Post w0 (E.Old w0) fun v Hn => ∃ A2 c2, v = .agg #[.int .i64 a, .int .i64 b, .slice A2 l.length c2] ∧ Hn = [E.HP.row 5 1 A2 l.length c2 (E.u8s l)]) := by
  refine E.calls_of (vs := [.agg #[.int .i64 a, .int .i64 b, .slice A l.length c]]) (H := []) Try.func59 Try.ntmps59 rfl rfl (E.HA.start w0) ?_
  refine E.CW.seq ?_
  refine E.CW.region ?_
  refine E.OW.box rfl rfl rfl rfl rfl rfl (fun B1 => ?_)
  refine E.OW.alloc (in24.zr) rfl rfl rfl rfl rfl (fun B2 => ?_)
  refine E.OW.nil ?_
  refine E.then_n ?_
  refine E.CW.seq ?_
  refine E.CW.nilrow 5 1 ?_
  refine E.CW.region ?_
  refine E.OW.pure rfl rfl rfl (E.PV.fieldAddr fa24_2 rfl rfl) ?_
  refine E.OW.pure rfl rfl rfl (E.PV.load (i := 2) na22 rfl rfl rfl rfl) ?_
  refine E.OW.append0 (i := 0) Try.underlying22 in5 rfl rfl (by decide) rfl rfl rfl rfl rfl rfl rfl (E.rdc hX) ?_ ?_ ?_ ?_ (fun A3 c3 => ?_); (focus ((first | rfl | (simp; done) | omega))); (focus ((first | exact E.ints_one | exact E.u8s_one | (simp [Value.oneCell']; done)))); (focus ((unfold maxLen; omega))); (focus ((first | omega | (simp only [List.length_append, List.length_cons, List.length_nil] at *; omega) | (unfold maxLen at *; omega))))
  refine E.OW.pure rfl rfl rfl (E.PV.fieldAddr fa24_2 rfl rfl) ?_
  refine E.OW.store (i := 2) in22.size rfl rfl rfl rfl rfl rfl rfl rfl rfl ?_
  refine E.OW.nil ?_
  refine E.then_n ?_
  refine E.CW.seq ?_
  refine E.CW.region ?_
  refine E.OW.pure rfl rfl rfl (E.PV.loads (i := 0) is24 rfl rfl rfl rfl) ?_
  refine E.OW.store (i := 2) in24.size rfl rfl rfl rfl rfl rfl rfl rfl rfl ?_
  refine E.OW.nil ?_
  refine E.then_n ?_
  refine E.CW.ret ?_
  refine E.KR.rv1 [2] Try.results59 (E.rv.cell is24 rfl (E.sli 0 rfl) rfl) rfl ?_
  exact ⟨_, _, rfl, rfl⟩

set_option maxRecDepth 100000 in
theorem rSameTeam_ok (m m2 : E.Tm) (w0 : World) (hm : m.rd w0 (E.Old w0)) (hm2 : m2.rd w0 (E.Old w0)) (hf : m.q.fit) (hf2 : m2.q.fit) :
    Calls Try.prog 30 #[m.v, m2.v] w0 (E.Post w0 (E.Old w0) fun v Hn => v = .bool (decide (m.q = m2.q)) ∧ Hn = []) := by
  obtain ⟨hX, hY, hZ⟩ := hm
  obtain ⟨hX2, hY2, hZ2⟩ := hm2
  have hs1 := hf.h
  have hs2 := hf.p
  have hs3 := hf.d
  refine E.calls_of (vs := [m.v, m2.v]) (H := []) Try.func30 Try.ntmps30 rfl rfl (E.HA.start w0) ?_
  refine E.CW.seq ?_
  refine E.CW.region ?_
  refine E.OW.box rfl rfl rfl rfl rfl rfl (fun B1 => ?_)
  refine E.OW.box rfl rfl rfl rfl rfl rfl (fun B2 => ?_)
  refine E.OW.pure rfl rfl rfl (E.PV.assign rfl rfl) ?_
  refine E.OW.nil ?_
  refine E.then_n ?_
  refine E.CW.seq ?_
  refine E.CW.seq ?_
  refine E.CW.region ?_
  refine E.OW.pure rfl rfl rfl (E.PV.fieldAddr fa33_0 rfl rfl) ?_
  refine E.OW.pure rfl rfl rfl (E.PV.load (i := 1) na31 rfl rfl rfl rfl) ?_
  refine E.OW.pure rfl rfl rfl (E.PV.fieldAddr fa33_0 rfl rfl) ?_
  refine E.OW.pure rfl rfl rfl (E.PV.load (i := 0) na31 rfl rfl rfl rfl) ?_
  (refine E.OW.call nm26 rfl rfl rfl rfl rfl rfl _ (fun w hw => rSameInts_ok _ _ m.q.h _ _ m2.q.h w ?_ ?_ ?_) ?_; (focus (omega)); (focus (refine hw.rd ?_; assumption)); (focus (refine hw.rd ?_; assumption)); rintro _ _ ⟨rfl, rfl⟩)
  refine E.OW.pure rfl rfl rfl (E.PV.not rfl rfl) ?_
  refine E.OW.pure rfl rfl rfl (E.PV.move rfl rfl) ?_
  all_goals (refine E.OW.split 11 rfl (fun hc => ?_) (fun hc => ?_) <;> (try simp only [E.b0, E.b1, E.b2, E.b3, E.b4, E.b5, E.b6, E.b7, E.b8, E.b9, E.b10, E.b11, E.b12, E.b13, E.b14, E.b15, E.b16, E.b17, E.b18, E.b19, E.b20, reduceCtorEq] at hc) <;> (try (exfalso; first | assumption | contradiction | omega)))
  all_goals (first | (refine E.OW.off rfl rfl rfl ?_) | (refine E.OW.pure rfl rfl rfl (E.PV.fieldAddr fa33_1 rfl rfl) ?_))
  all_goals (first | (refine E.OW.off rfl rfl rfl ?_) | (refine E.OW.pure rfl rfl rfl (E.PV.load (i := 1) na31 rfl rfl rfl rfl) ?_))
  all_goals (first | (refine E.OW.off rfl rfl rfl ?_) | (refine E.OW.pure rfl rfl rfl (E.PV.fieldAddr fa33_1 rfl rfl) ?_))
  all_goals (first | (refine E.OW.off rfl rfl rfl ?_) | (refine E.OW.pure rfl rfl rfl (E.PV.load (i := 0) na31 rfl rfl rfl rfl) ?_))
  all_goals (first | (refine E.OW.off rfl rfl rfl ?_) | ((refine E.OW.call nm26 rfl rfl rfl rfl rfl rfl _ (fun w hw => rSameInts_ok _ _ m.q.p _ _ m2.q.p w ?_ ?_ ?_) ?_; (focus (omega)); (focus (refine hw.rd ?_; assumption)); (focus (refine hw.rd ?_; assumption)); rintro _ _ ⟨rfl, rfl⟩)))
  all_goals (first | (refine E.OW.off rfl rfl rfl ?_) | (refine E.OW.pure rfl rfl rfl (E.PV.not rfl rfl) ?_))
  all_goals (first | (refine E.OW.pure rfl rfl rfl (E.PV.pick_t rfl rfl rfl) ?_) | (refine E.OW.pure rfl rfl rfl (E.PV.pick_f rfl rfl rfl) ?_))
  all_goals (refine E.OW.pure rfl rfl rfl (E.PV.move rfl rfl) ?_)
  all_goals (first | (refine E.OW.put 19 (.bool true) (v := .bool true) rfl rfl ?_) | (refine E.OW.split 19 rfl (fun hc => ?_) (fun hc => ?_) <;> (try simp only [E.b0, E.b1, E.b2, E.b3, E.b4, E.b5, E.b6, E.b7, E.b8, E.b9, E.b10, E.b11, E.b12, E.b13, E.b14, E.b15, E.b16, E.b17, E.b18, E.b19, E.b20, reduceCtorEq] at hc) <;> (try (exfalso; first | assumption | contradiction | omega))))
  all_goals (first | (refine E.OW.off rfl rfl rfl ?_) | (refine E.OW.pure rfl rfl rfl (E.PV.fieldAddr fa33_2 rfl rfl) ?_))
  all_goals (first | (refine E.OW.off rfl rfl rfl ?_) | (refine E.OW.pure rfl rfl rfl (E.PV.load (i := 1) na31 rfl rfl rfl rfl) ?_))
  all_goals (first | (refine E.OW.off rfl rfl rfl ?_) | (refine E.OW.pure rfl rfl rfl (E.PV.fieldAddr fa33_2 rfl rfl) ?_))
  all_goals (first | (refine E.OW.off rfl rfl rfl ?_) | (refine E.OW.pure rfl rfl rfl (E.PV.load (i := 0) na31 rfl rfl rfl rfl) ?_))
  all_goals (first | (refine E.OW.off rfl rfl rfl ?_) | ((refine E.OW.call nm26 rfl rfl rfl rfl rfl rfl _ (fun w hw => rSameInts_ok _ _ m.q.d _ _ m2.q.d w ?_ ?_ ?_) ?_; (focus (omega)); (focus (refine hw.rd ?_; assumption)); (focus (refine hw.rd ?_; assumption)); rintro _ _ ⟨rfl, rfl⟩)))
  all_goals (first | (refine E.OW.off rfl rfl rfl ?_) | (refine E.OW.pure rfl rfl rfl (E.PV.not rfl rfl) ?_))
  all_goals (first | (refine E.OW.pure rfl rfl rfl (E.PV.pick_t rfl rfl rfl) ?_) | (refine E.OW.pure rfl rfl rfl (E.PV.pick_f rfl rfl rfl) ?_))
  all_goals (
    refine E.OW.nil ?_
    refine E.then_n ?_
    refine E.CW.cond rfl (fun hc => ?_) (fun hc => ?_)
    · simp only [E.b0, E.b1, E.b2, E.b3, E.b4, E.b5, E.b6, E.b7, E.b8, E.b9, E.b10, E.b11, E.b12, E.b13, E.b14, E.b15, E.b16, E.b17, E.b18, E.b19, E.b20, reduceCtorEq] at hc
      all_goals (
        refine E.CW.seq ?_
        refine E.CW.region ?_
        refine E.OW.pure rfl rfl rfl (E.PV.assign rfl rfl) ?_
        refine E.OW.nil ?_
        refine E.then_n ?_
        refine E.CW.ret ?_
        refine E.then_ret ?_
        refine E.KR.one [] Try.results30 rfl rfl ?_
        exact ⟨by simp [Cf.T.ext', *], rfl⟩)
    · first | ((cases hc; done)) | (simp only [E.b0, E.b1, E.b2, E.b3, E.b4, E.b5, E.b6, E.b7, E.b8, E.b9, E.b10, E.b11, E.b12, E.b13, E.b14, E.b15, E.b16, E.b17, E.b18, E.b19, E.b20, reduceCtorEq] at hc)
      all_goals (
        refine E.CW.skip ?_
        refine E.then_n ?_
        refine E.CW.seq ?_
        refine E.CW.region ?_
        refine E.OW.pure rfl rfl rfl (E.PV.fieldAddr fa33_3 rfl rfl) ?_
        refine E.OW.pure rfl rfl rfl (E.PV.load (i := 1) na3 rfl rfl rfl rfl) ?_
        refine E.OW.pure rfl rfl rfl (E.PV.fieldAddr fa33_3 rfl rfl) ?_
        refine E.OW.pure rfl rfl rfl (E.PV.load (i := 0) na3 rfl rfl rfl rfl) ?_
        refine E.OW.pure rfl rfl rfl (E.PV.eql rfl rfl rfl) ?_
        refine E.OW.pure rfl rfl rfl (E.PV.move rfl rfl) ?_
        all_goals (refine E.OW.split 32 rfl (fun hc => ?_) (fun hc => ?_) <;> (try simp only [E.b0, E.b1, E.b2, E.b3, E.b4, E.b5, E.b6, E.b7, E.b8, E.b9, E.b10, E.b11, E.b12, E.b13, E.b14, E.b15, E.b16, E.b17, E.b18, E.b19, E.b20, reduceCtorEq] at hc) <;> (try (exfalso; first | assumption | contradiction | omega)))
        all_goals (first | (refine E.OW.off rfl rfl rfl ?_) | (refine E.OW.pure rfl rfl rfl (E.PV.fieldAddr fa33_4 rfl rfl) ?_))
        all_goals (first | (refine E.OW.off rfl rfl rfl ?_) | (refine E.OW.pure rfl rfl rfl (E.PV.load (i := 1) na3 rfl rfl rfl rfl) ?_))
        all_goals (first | (refine E.OW.off rfl rfl rfl ?_) | (refine E.OW.pure rfl rfl rfl (E.PV.fieldAddr fa33_4 rfl rfl) ?_))
        all_goals (first | (refine E.OW.off rfl rfl rfl ?_) | (refine E.OW.pure rfl rfl rfl (E.PV.load (i := 0) na3 rfl rfl rfl rfl) ?_))
        all_goals (first | (refine E.OW.off rfl rfl rfl ?_) | (refine E.OW.pure rfl rfl rfl (E.PV.eql rfl rfl rfl) ?_))
        all_goals (first | (refine E.OW.pure rfl rfl rfl (E.PV.pick_t rfl rfl rfl) ?_) | (refine E.OW.pure rfl rfl rfl (E.PV.pick_f rfl rfl rfl) ?_))
        all_goals (refine E.OW.pure rfl rfl rfl (E.PV.move rfl rfl) ?_)
        all_goals (first | (refine E.OW.put 39 (.bool false) (v := .bool false) rfl rfl ?_) | (refine E.OW.split 39 rfl (fun hc => ?_) (fun hc => ?_) <;> (try simp only [E.b0, E.b1, E.b2, E.b3, E.b4, E.b5, E.b6, E.b7, E.b8, E.b9, E.b10, E.b11, E.b12, E.b13, E.b14, E.b15, E.b16, E.b17, E.b18, E.b19, E.b20, reduceCtorEq] at hc) <;> (try (exfalso; first | assumption | contradiction | omega))))
        all_goals (first | (refine E.OW.off rfl rfl rfl ?_) | (refine E.OW.pure rfl rfl rfl (E.PV.fieldAddr fa33_5 rfl rfl) ?_))
        all_goals (first | (refine E.OW.off rfl rfl rfl ?_) | (refine E.OW.pure rfl rfl rfl (E.PV.load (i := 1) na3 rfl rfl rfl rfl) ?_))
        all_goals (first | (refine E.OW.off rfl rfl rfl ?_) | (refine E.OW.pure rfl rfl rfl (E.PV.fieldAddr fa33_5 rfl rfl) ?_))
        all_goals (first | (refine E.OW.off rfl rfl rfl ?_) | (refine E.OW.pure rfl rfl rfl (E.PV.load (i := 0) na3 rfl rfl rfl rfl) ?_))
        all_goals (first | (refine E.OW.off rfl rfl rfl ?_) | (refine E.OW.pure rfl rfl rfl (E.PV.eql rfl rfl rfl) ?_))
        all_goals (first | (refine E.OW.pure rfl rfl rfl (E.PV.pick_t rfl rfl rfl) ?_) | (refine E.OW.pure rfl rfl rfl (E.PV.pick_f rfl rfl rfl) ?_))
        all_goals (refine E.OW.pure rfl rfl rfl (E.PV.move rfl rfl) ?_)
        all_goals (first | (refine E.OW.put 46 (.bool false) (v := .bool false) rfl rfl ?_) | (refine E.OW.split 46 rfl (fun hc => ?_) (fun hc => ?_) <;> (try simp only [E.b0, E.b1, E.b2, E.b3, E.b4, E.b5, E.b6, E.b7, E.b8, E.b9, E.b10, E.b11, E.b12, E.b13, E.b14, E.b15, E.b16, E.b17, E.b18, E.b19, E.b20, reduceCtorEq] at hc) <;> (try (exfalso; first | assumption | contradiction | omega))))
        all_goals (first | (refine E.OW.off rfl rfl rfl ?_) | (refine E.OW.pure rfl rfl rfl (E.PV.fieldAddr fa33_6 rfl rfl) ?_))
        all_goals (first | (refine E.OW.off rfl rfl rfl ?_) | (refine E.OW.pure rfl rfl rfl (E.PV.load (i := 1) na3 rfl rfl rfl rfl) ?_))
        all_goals (first | (refine E.OW.off rfl rfl rfl ?_) | (refine E.OW.pure rfl rfl rfl (E.PV.fieldAddr fa33_6 rfl rfl) ?_))
        all_goals (first | (refine E.OW.off rfl rfl rfl ?_) | (refine E.OW.pure rfl rfl rfl (E.PV.load (i := 0) na3 rfl rfl rfl rfl) ?_))
        all_goals (first | (refine E.OW.off rfl rfl rfl ?_) | (refine E.OW.pure rfl rfl rfl (E.PV.eql rfl rfl rfl) ?_))
        all_goals (first | (refine E.OW.pure rfl rfl rfl (E.PV.pick_t rfl rfl rfl) ?_) | (refine E.OW.pure rfl rfl rfl (E.PV.pick_f rfl rfl rfl) ?_))
        all_goals (refine E.OW.pure rfl rfl rfl (E.PV.move rfl rfl) ?_)
        all_goals (first | (refine E.OW.put 53 (.bool false) (v := .bool false) rfl rfl ?_) | (refine E.OW.split 53 rfl (fun hc => ?_) (fun hc => ?_) <;> (try simp only [E.b0, E.b1, E.b2, E.b3, E.b4, E.b5, E.b6, E.b7, E.b8, E.b9, E.b10, E.b11, E.b12, E.b13, E.b14, E.b15, E.b16, E.b17, E.b18, E.b19, E.b20, reduceCtorEq] at hc) <;> (try (exfalso; first | assumption | contradiction | omega))))
        all_goals (first | (refine E.OW.off rfl rfl rfl ?_) | (refine E.OW.pure rfl rfl rfl (E.PV.fieldAddr fa33_7 rfl rfl) ?_))
        all_goals (first | (refine E.OW.off rfl rfl rfl ?_) | (refine E.OW.pure rfl rfl rfl (E.PV.load (i := 1) na3 rfl rfl rfl rfl) ?_))
        all_goals (first | (refine E.OW.off rfl rfl rfl ?_) | (refine E.OW.pure rfl rfl rfl (E.PV.fieldAddr fa33_7 rfl rfl) ?_))
        all_goals (first | (refine E.OW.off rfl rfl rfl ?_) | (refine E.OW.pure rfl rfl rfl (E.PV.load (i := 0) na3 rfl rfl rfl rfl) ?_))
        all_goals (first | (refine E.OW.off rfl rfl rfl ?_) | (refine E.OW.pure rfl rfl rfl (E.PV.eql rfl rfl rfl) ?_))
        all_goals (first | (refine E.OW.pure rfl rfl rfl (E.PV.pick_t rfl rfl rfl) ?_) | (refine E.OW.pure rfl rfl rfl (E.PV.pick_f rfl rfl rfl) ?_))
        all_goals (refine E.OW.pure rfl rfl rfl (E.PV.assign rfl rfl) ?_)
        all_goals (
          refine E.OW.nil ?_
          refine E.then_n ?_
          refine E.CW.ret ?_
          refine E.KR.one [] Try.results30 rfl rfl ?_
          exact ⟨by simp [Cf.T.ext', *], rfl⟩)))

set_option maxRecDepth 100000 in
theorem rSameC_ok (g h : E.Cfg) (w0 : World) (hg : g.rd w0 (E.Old w0)) (hh : h.rd w0 (E.Old w0)) (hgf : g.q.fit) (hhf : h.q.fit) :
    Calls Try.prog 20 #[g.v, h.v] w0 (E.Post w0 (E.Old w0) fun v Hn => v = .bool (decide (g.q = h.q)) ∧ Hn = []) := by
  obtain ⟨hX1, hX2, hX3, hX4⟩ := id hg
  obtain ⟨hY1, hY2, hY3, hY4⟩ := id hh
  have hgl := E.Cfg.fit_len hgf
  have hhl := E.Cfg.fit_len hhf
  refine E.calls_of (vs := [g.v, h.v]) (H := []) Try.func20 Try.ntmps20 rfl rfl (E.HA.start w0) ?_
  refine E.CW.seq ?_
  refine E.CW.region ?_
  refine E.OW.box rfl rfl rfl rfl rfl rfl (fun B1 => ?_)
  refine E.OW.box rfl rfl rfl rfl rfl rfl (fun B2 => ?_)
  refine E.OW.pure rfl rfl rfl (E.PV.assign rfl rfl) ?_
  refine E.OW.nil ?_
  refine E.then_n ?_
  refine E.CW.seq ?_
  refine E.CW.seq ?_
  refine E.CW.region ?_
  refine E.OW.pure rfl rfl rfl (E.PV.fieldAddr fa28_0 rfl rfl) ?_
  refine E.OW.pure rfl rfl rfl (E.PV.loads (i := 1) is24 rfl rfl rfl rfl) ?_
  refine E.OW.pure rfl rfl rfl (E.PV.fieldAddr fa28_0 rfl rfl) ?_
  refine E.OW.pure rfl rfl rfl (E.PV.loads (i := 0) is24 rfl rfl rfl rfl) ?_
  (refine E.OW.call nm58 rfl rfl rfl rfl rfl rfl _ (fun w hw => rSame_ok _ _ _ _ g.l _ _ _ _ h.l w ?_ ?_) ?_; (focus (refine hw.rd ?_; assumption)); (focus (refine hw.rd ?_; assumption)); rintro _ _ ⟨rfl, rfl⟩)
  refine E.OW.pure rfl rfl rfl (E.PV.not rfl rfl) ?_
  refine E.OW.pure rfl rfl rfl (E.PV.move rfl rfl) ?_
  all_goals (refine E.OW.split 12 rfl (fun hc => ?_) (fun hc => ?_) <;> (try simp only [E.b0, E.b1, E.b2, E.b3, E.b4, E.b5, E.b6, E.b7, E.b8, E.b9, E.b10, E.b11, E.b12, E.b13, E.b14, E.b15, E.b16, E.b17, E.b18, E.b19, E.b20, reduceCtorEq] at hc) <;> (try (exfalso; first | assumption | contradiction | omega)))
  all_goals (first | (refine E.OW.off rfl rfl rfl ?_) | (refine E.OW.pure rfl rfl rfl (E.PV.fieldAddr fa28_1 rfl rfl) ?_))
  all_goals (first | (refine E.OW.off rfl rfl rfl ?_) | (refine E.OW.pure rfl rfl rfl (E.PV.load (i := 1) na22 rfl rfl rfl rfl) ?_))
  all_goals (first | (refine E.OW.off rfl rfl rfl ?_) | (refine E.OW.pure rfl rfl rfl (E.PV.b2s Try.underlying22 Try.underlying5 Try.underlying9 (E.rdc hX2) ?_ rfl rfl) ?_; (focus (simp))))
  all_goals (first | (refine E.OW.off rfl rfl rfl ?_) | (refine E.OW.pure rfl rfl rfl (E.PV.fieldAddr fa28_1 rfl rfl) ?_))
  all_goals (first | (refine E.OW.off rfl rfl rfl ?_) | (refine E.OW.pure rfl rfl rfl (E.PV.load (i := 0) na22 rfl rfl rfl rfl) ?_))
  all_goals (first | (refine E.OW.off rfl rfl rfl ?_) | (refine E.OW.pure rfl rfl rfl (E.PV.b2s Try.underlying22 Try.underlying5 Try.underlying9 (E.rdc hY2) ?_ rfl rfl) ?_; (focus (simp))))
  all_goals (first | (refine E.OW.off rfl rfl rfl ?_) | (refine E.OW.pure rfl rfl rfl (E.PV.sne rfl rfl rfl) ?_))
  all_goals (first | (refine E.OW.pure rfl rfl rfl (E.PV.pick_t rfl rfl rfl) ?_) | (refine E.OW.pure rfl rfl rfl (E.PV.pick_f rfl rfl rfl) ?_))
  all_goals (refine E.OW.pure rfl rfl rfl (E.PV.move rfl rfl) ?_)
  all_goals (first | (refine E.OW.put 21 (.bool true) (v := .bool true) rfl rfl ?_) | (refine E.OW.split 21 rfl (fun hc => ?_) (fun hc => ?_) <;> (try simp only [E.b0, E.b1, E.b2, E.b3, E.b4, E.b5, E.b6, E.b7, E.b8, E.b9, E.b10, E.b11, E.b12, E.b13, E.b14, E.b15, E.b16, E.b17, E.b18, E.b19, E.b20, reduceCtorEq] at hc) <;> (try (exfalso; first | assumption | contradiction | omega))))
  all_goals (first | (refine E.OW.off rfl rfl rfl ?_) | (refine E.OW.pure rfl rfl rfl (E.PV.fieldAddr fa28_3 rfl rfl) ?_))
  all_goals (first | (refine E.OW.off rfl rfl rfl ?_) | (refine E.OW.pure rfl rfl rfl (E.PV.load (i := 1) na26 rfl rfl rfl rfl) ?_))
  all_goals (first | (refine E.OW.off rfl rfl rfl ?_) | (refine E.OW.pure rfl rfl rfl (E.PV.fieldAddr fa28_3 rfl rfl) ?_))
  all_goals (first | (refine E.OW.off rfl rfl rfl ?_) | (refine E.OW.pure rfl rfl rfl (E.PV.load (i := 0) na26 rfl rfl rfl rfl) ?_))
  all_goals (first | (refine E.OW.off rfl rfl rfl ?_) | (refine E.OW.pure rfl rfl rfl (E.PV.neq rfl rfl rfl) ?_))
  all_goals (first | (refine E.OW.pure rfl rfl rfl (E.PV.pick_t rfl rfl rfl) ?_) | (refine E.OW.pure rfl rfl rfl (E.PV.pick_f rfl rfl rfl) ?_))
  all_goals (refine E.OW.pure rfl rfl rfl (E.PV.move rfl rfl) ?_)
  all_goals (first | (refine E.OW.put 28 (.bool true) (v := .bool true) rfl rfl ?_) | (refine E.OW.split 28 rfl (fun hc => ?_) (fun hc => ?_) <;> (try simp only [E.b0, E.b1, E.b2, E.b3, E.b4, E.b5, E.b6, E.b7, E.b8, E.b9, E.b10, E.b11, E.b12, E.b13, E.b14, E.b15, E.b16, E.b17, E.b18, E.b19, E.b20, reduceCtorEq] at hc) <;> (try (exfalso; first | assumption | contradiction | omega))))
  all_goals (first | (refine E.OW.off rfl rfl rfl ?_) | (refine E.OW.pure rfl rfl rfl (E.PV.fieldAddr fa28_2 rfl rfl) ?_))
  all_goals (first | (refine E.OW.off rfl rfl rfl ?_) | (refine E.OW.pure rfl rfl rfl (E.PV.load (i := 1) na25 rfl rfl rfl rfl) ?_))
  all_goals (first | (refine E.OW.off rfl rfl rfl ?_) | (refine E.OW.pure rfl rfl rfl (E.PV.len Try.underlying25 rfl rfl) ?_))
  all_goals (first | (refine E.OW.off rfl rfl rfl ?_) | (refine E.OW.pure rfl rfl rfl (E.PV.fieldAddr fa28_2 rfl rfl) ?_))
  all_goals (first | (refine E.OW.off rfl rfl rfl ?_) | (refine E.OW.pure rfl rfl rfl (E.PV.load (i := 0) na25 rfl rfl rfl rfl) ?_))
  all_goals (first | (refine E.OW.off rfl rfl rfl ?_) | (refine E.OW.pure rfl rfl rfl (E.PV.len Try.underlying25 rfl rfl) ?_))
  all_goals (first | (refine E.OW.off rfl rfl rfl ?_) | (refine E.OW.pure rfl rfl rfl (E.PV.neq rfl rfl rfl) ?_))
  all_goals (first | (refine E.OW.pure rfl rfl rfl (E.PV.pick_t rfl rfl rfl) ?_) | (refine E.OW.pure rfl rfl rfl (E.PV.pick_f rfl rfl rfl) ?_))
  all_goals (
    refine E.OW.nil ?_
    refine E.then_n ?_
    refine E.CW.cond rfl (fun hc => ?_) (fun hc => ?_)
    · simp only [E.b0, E.b1, E.b2, E.b3, E.b4, E.b5, E.b6, E.b7, E.b8, E.b9, E.b10, E.b11, E.b12, E.b13, E.b14, E.b15, E.b16, E.b17, E.b18, E.b19, E.b20, reduceCtorEq] at hc
      all_goals (
        refine E.CW.seq ?_
        refine E.CW.region ?_
        refine E.OW.pure rfl rfl rfl (E.PV.assign rfl rfl) ?_
        refine E.OW.nil ?_
        refine E.then_n ?_
        refine E.CW.ret ?_
        refine E.then_ret ?_
        refine E.KR.one [] Try.results20 rfl rfl ?_
        exact ⟨by first | (simp [E.Cfg.q_eq, *]; done) | rw [decide_eq_false (E.Cfg.q_len (by assumption))] | (have hne : ¬ g.q = h.q := (fun e => by (have e2 := E.Cfg.q_eq.1 e; simp_all)); rw [decide_eq_false hne]), rfl⟩)
    · first | ((cases hc; done)) | (simp only [E.b0, E.b1, E.b2, E.b3, E.b4, E.b5, E.b6, E.b7, E.b8, E.b9, E.b10, E.b11, E.b12, E.b13, E.b14, E.b15, E.b16, E.b17, E.b18, E.b19, E.b20, reduceCtorEq] at hc)
      all_goals (
        refine E.CW.skip ?_
        refine E.then_n ?_
        refine E.CW.seq ?_
        refine E.CW.seq ?_
        refine E.CW.region ?_
        refine E.OW.pure rfl rfl rfl (E.PV.assign rfl rfl) ?_
        refine E.OW.nil ?_
        refine E.then_n ?_
        refine E.CW.block ?_
        refine E.CW.loopk [2, 3] 0 rfl rfl (fun mm mods Hm => ∃ k : Nat, mm = g.ts.length - k ∧ mods = [(5, .int .i64 k)] ∧ Hm = [] ∧ (k ≤ g.ts.length ∧ ∀ j, j < k → (g.ts.getD j E.Tm.z).q = (h.ts.getD j E.Tm.z).q)) (g.ts.length) ?_ ?_
        · exact ⟨[(5, _)], (by repeat (first | exact E.cov_nil | refine ⟨rfl, ?_⟩)), 0, rfl, rfl, rfl, by omega, fun j hj => by omega⟩
        · rintro _ _ _ ⟨k, rfl, rfl, rfl, hk, hI⟩
          refine E.CW.seq ?_
          refine E.CW.seq ?_
          refine E.CW.region ?_
          refine E.OW.pure rfl rfl rfl (E.PV.move rfl rfl) ?_
          refine E.OW.pure rfl rfl rfl (E.PV.fieldAddr fa28_2 rfl rfl) ?_
          refine E.OW.pure rfl rfl rfl (E.PV.load (i := 1) na25 rfl rfl rfl rfl) ?_
          refine E.OW.pure rfl rfl rfl (E.PV.len Try.underlying25 rfl rfl) ?_
          refine E.OW.pure rfl rfl rfl (E.PV.lss rfl rfl rfl) ?_
          refine E.OW.nil ?_
          refine E.then_n ?_
          refine E.CW.cond rfl (fun hc => ?_) (fun hc => ?_)
          · simp only [E.b0, E.b1, E.b2, E.b3, E.b4, E.b5, E.b6, E.b7, E.b8, E.b9, E.b10, E.b11, E.b12, E.b13, E.b14, E.b15, E.b16, E.b17, E.b18, E.b19, E.b20, reduceCtorEq] at hc
            all_goals (
              refine E.CW.skip ?_
              refine E.then_n ?_
              refine E.CW.seq ?_
              refine E.CW.block ?_
              refine E.CW.seq ?_
              refine E.CW.draw mixed (by kernel_rfl) ?_
              refine E.QW.pure rfl rfl rfl (E.PV.fieldAddr fa28_2 rfl rfl) ?_
              refine E.QW.pure rfl rfl rfl (E.PV.load (i := 1) na25 rfl rfl rfl rfl) ?_
              refine E.QW.pure rfl rfl rfl (E.PV.move rfl rfl) ?_
              refine E.QW.pure rfl rfl rfl (E.PV.indexAddr (E.rdc hX3) Try.underlying25 in33 rfl rfl rfl rfl ?_ ?_ (by decide)) ?_; (focus (first | (simp; done) | (simp; omega))); (focus (omega))
              refine E.QW.pure rfl rfl rfl (E.PV.load_tm (E.rdc hX3) is33 rfl rfl ?_) ?_; (focus (omega))
              refine E.QW.pure rfl rfl rfl (E.PV.fieldAddr fa28_2 rfl rfl) ?_
              refine E.QW.pure rfl rfl rfl (E.PV.load (i := 0) na25 rfl rfl rfl rfl) ?_
              refine E.QW.pure rfl rfl rfl (E.PV.move rfl rfl) ?_
              refine E.QW.pure rfl rfl rfl (E.PV.indexAddr (E.rdc hY3) Try.underlying25 in33 rfl rfl rfl rfl ?_ ?_ (by decide)) ?_; (focus (first | (simp; done) | (simp; omega))); (focus (omega))
              refine E.QW.pure rfl rfl rfl (E.PV.load_tm (E.rdc hY3) is33 rfl rfl ?_) ?_; (focus (omega))
              (refine E.QW.call nm30 rfl rfl rfl rfl rfl rfl _ (fun w hw => E.Post.val (rSameTeam_ok (g.ts.getD k E.Tm.z) (h.ts.getD k E.Tm.z) w (hw.rdm (hg.m _ (E.Tm.mem (by omega)))) (hw.rdm (hh.m _ (E.Tm.mem (by omega)))) (E.Cfg.fit_m hgf _ (E.Tm.mem (by omega))) (E.Cfg.fit_m hhf _ (E.Tm.mem (by omega))))) ?_)
              refine E.QW.pure rfl rfl rfl (E.PV.not rfl rfl) ?_
              refine E.QW.nil ?_
              refine E.then_n ?_
              refine E.CW.cond rfl (fun hc => ?_) (fun hc => ?_)
              · simp only [E.b0, E.b1, E.b2, E.b3, E.b4, E.b5, E.b6, E.b7, E.b8, E.b9, E.b10, E.b11, E.b12, E.b13, E.b14, E.b15, E.b16, E.b17, E.b18, E.b19, E.b20, reduceCtorEq] at hc
                all_goals (
                  refine E.CW.seq ?_
                  refine E.CW.region ?_
                  refine E.OW.pure rfl rfl rfl (E.PV.assign rfl rfl) ?_
                  refine E.OW.nil ?_
                  refine E.then_n ?_
                  refine E.CW.ret ?_
                  refine E.blk_ret ?_
                  refine E.then_ret ?_
                  refine E.then_ret ?_
                  refine E.blk_ret ?_
                  refine E.then_ret ?_
                  refine E.KR.one [] Try.results20 rfl rfl ?_
                  exact ⟨by rw [decide_eq_false (E.Cfg.q_at (k := k) (by omega) (by omega) (by assumption))], rfl⟩)
              · simp only [E.b0, E.b1, E.b2, E.b3, E.b4, E.b5, E.b6, E.b7, E.b8, E.b9, E.b10, E.b11, E.b12, E.b13, E.b14, E.b15, E.b16, E.b17, E.b18, E.b19, E.b20, reduceCtorEq] at hc
                all_goals (
                  refine E.CW.skip ?_
                  refine E.blk_n ?_
                  refine E.then_n ?_
                  refine E.CW.region ?_
                  refine E.OW.pure rfl rfl rfl (E.PV.move rfl rfl) ?_
                  refine E.OW.pure rfl rfl rfl (E.PV.add_i64 rfl rfl rfl ?_) ?_; (focus (omega))
                  refine E.OW.pure rfl rfl rfl (E.PV.assign rfl rfl) ?_
                  refine E.OW.nil ?_
                  refine E.then_nf ?_
                  refine ⟨_, [(5, _)], [0, 0], _, ?_, by repeat (first | exact E.cov_nil | refine ⟨rfl, ?_⟩), rfl, k + 1, rfl, rfl, rfl, by omega, Cf.upto' (f := E.Tm.q) hI (by assumption)⟩
                  omega))
          · simp only [E.b0, E.b1, E.b2, E.b3, E.b4, E.b5, E.b6, E.b7, E.b8, E.b9, E.b10, E.b11, E.b12, E.b13, E.b14, E.b15, E.b16, E.b17, E.b18, E.b19, E.b20, reduceCtorEq] at hc
            all_goals (
              refine E.CW.exit ?_
              refine E.then_x ?_
              refine E.then_x ?_
              refine E.blk_eq ?_
              refine E.then_n ?_
              refine E.CW.seq ?_
              refine E.CW.region ?_
              refine E.OW.pure rfl rfl rfl (E.PV.assign rfl rfl) ?_
              refine E.OW.nil ?_
              refine E.then_n ?_
              refine E.CW.ret ?_
              refine E.KR.one [] Try.results20 rfl rfl ?_
              have hts : g.ts.map (·.q) = h.ts.map (·.q) := of_decide_eq_true (Cf.map_eq (z := E.Tm.z) (by omega) (fun j hj => hI j (by omega)))
              exact ⟨by simp_all [E.Cfg.q_eq], rfl⟩)))

set_option maxRecDepth 100000 in
theorem TwinTeam_ok (m : E.Tm) (w0 : World) (hm : m.rd w0 (E.Old w0)) (hf : m.q.fit) :
    Calls Try.prog 22 #[m.v] w0 (E.Post w0 (E.Old w0) fun v Hn => ∃ m2 : E.Tm, v = m2.v ∧ Hn = [E.HP.tm m2] ∧ m2.q = m.q) := by
  obtain ⟨hX, hY, hZ⟩ := hm
  have hs1 := hf.h
  have hs2 := hf.p
  have hs3 := hf.d
  refine E.calls_of (vs := [m.v]) (H := []) Try.func22 Try.ntmps22 rfl rfl (E.HA.start w0) ?_
  refine E.CW.seq ?_
  refine E.CW.region ?_
  refine E.OW.box rfl rfl rfl rfl rfl rfl (fun B1 => ?_)
  refine E.OW.alloc (in33.zr) rfl rfl rfl rfl rfl (fun B2 => ?_)
  refine E.OW.nil ?_
  refine E.then_n ?_
  refine E.CW.seq ?_
  refine E.CW.nilrow 3 1 ?_
  refine E.CW.region ?_
  refine E.OW.pure rfl rfl rfl (E.PV.fieldAddr fa33_0 rfl rfl) ?_
  refine E.OW.pure rfl rfl rfl (E.PV.load (i := 2) na31 rfl rfl rfl rfl) ?_
  refine E.OW.append0 (i := 0) Try.underlying31 in3 rfl rfl (by decide) rfl rfl rfl rfl rfl rfl rfl (E.rdc hX) ?_ ?_ ?_ ?_ (fun A3 c3 => ?_); (focus ((first | rfl | (simp; done) | omega))); (focus ((first | exact E.ints_one | exact E.u8s_one | (simp [Value.oneCell']; done)))); (focus ((unfold maxLen; omega))); (focus ((first | omega | (simp only [List.length_append, List.length_cons, List.length_nil] at *; omega) | (unfold maxLen at *; omega))))
  refine E.OW.pure rfl rfl rfl (E.PV.fieldAddr fa33_0 rfl rfl) ?_
  refine E.OW.store (i := 2) in31.size rfl rfl rfl rfl rfl rfl rfl rfl rfl ?_
  refine E.OW.nil ?_
  refine E.then_n ?_
  refine E.CW.seq ?_
  refine E.CW.nilrow 3 1 ?_
  refine E.CW.region ?_
  refine E.OW.pure rfl rfl rfl (E.PV.fieldAddr fa33_1 rfl rfl) ?_
  refine E.OW.pure rfl rfl rfl (E.PV.load (i := 1) na31 rfl rfl rfl rfl) ?_
  refine E.OW.append0 (i := 0) Try.underlying31 in3 rfl rfl (by decide) rfl rfl rfl rfl rfl rfl rfl (E.rdc hY) ?_ ?_ ?_ ?_ (fun A4 c4 => ?_); (focus ((first | rfl | (simp; done) | omega))); (focus ((first | exact E.ints_one | exact E.u8s_one | (simp [Value.oneCell']; done)))); (focus ((unfold maxLen; omega))); (focus ((first | omega | (simp only [List.length_append, List.length_cons, List.length_nil] at *; omega) | (unfold maxLen at *; omega))))
  refine E.OW.pure rfl rfl rfl (E.PV.fieldAddr fa33_1 rfl rfl) ?_
  refine E.OW.store (i := 1) in31.size rfl rfl rfl rfl rfl rfl rfl rfl rfl ?_
  refine E.OW.nil ?_
  refine E.then_n ?_
  refine E.CW.seq ?_
  refine E.CW.nilrow 3 1 ?_
  refine E.CW.region ?_
  refine E.OW.pure rfl rfl rfl (E.PV.fieldAddr fa33_2 rfl rfl) ?_
  refine E.OW.pure rfl rfl rfl (E.PV.load (i := 1) na31 rfl rfl rfl rfl) ?_
  refine E.OW.append0 (i := 0) Try.underlying31 in3 rfl rfl (by decide) rfl rfl rfl rfl rfl rfl rfl (E.rdc hZ) ?_ ?_ ?_ ?_ (fun A5 c5 => ?_); (focus ((first | rfl | (simp; done) | omega))); (focus ((first | exact E.ints_one | exact E.u8s_one | (simp [Value.oneCell']; done)))); (focus ((unfold maxLen; omega))); (focus ((first | omega | (simp only [List.length_append, List.length_cons, List.length_nil] at *; omega) | (unfold maxLen at *; omega))))
  refine E.OW.pure rfl rfl rfl (E.PV.fieldAddr fa33_2 rfl rfl) ?_
  refine E.OW.store (i := 1) in31.size rfl rfl rfl rfl rfl rfl rfl rfl rfl ?_
  refine E.OW.nil ?_
  refine E.then_n ?_
  refine E.CW.seq ?_
  refine E.CW.gather [3, 2, 1, 0, 0] 3 rfl rfl ?_
  refine E.CW.region ?_
  refine E.OW.pure rfl rfl rfl (E.PV.loads (i := 1) is33 rfl rfl rfl rfl) ?_
  refine E.OW.store (i := 2) in33.size rfl rfl rfl rfl rfl rfl rfl rfl rfl ?_
  refine E.OW.nil ?_
  refine E.then_n ?_
  refine E.CW.ret ?_
  refine E.KR.rv1 [1] Try.results22 (E.rv.cell is33 rfl (E.sli 0 rfl) rfl) rfl ?_
  exact ⟨⟨m.q, A3, A4, A5, c3, c4, c5⟩, rfl, rfl, rfl⟩

set_option maxRecDepth 100000 in
theorem TwinC_ok (g : E.Cfg) (w0 : World) (hg : g.rd w0 (E.Old w0)) (hgf : g.q.fit) :
    Calls Try.prog 21 #[g.v] w0 (E.Post w0 (E.Old w0) fun v Hn => ∃ g2 : E.Cfg, v = g2.v ∧ Hn = [E.HP.cfg g2] ∧ g2.q = g.q) := by
  obtain ⟨hX1, hX2, hX3, hX4⟩ := id hg
  have hgl := E.Cfg.fit_len hgf
  refine E.calls_of (vs := [g.v]) (H := []) Try.func21 Try.ntmps21 rfl rfl (E.HA.start w0) ?_
  refine E.CW.seq ?_
  refine E.CW.region ?_
  refine E.OW.box rfl rfl rfl rfl rfl rfl (fun B1 => ?_)
  refine E.OW.alloc (in28.zr) rfl rfl rfl rfl rfl (fun B2 => ?_)
  refine E.OW.nil ?_
  refine E.then_n ?_
  refine E.CW.seq ?_
  refine E.CW.region ?_
  refine E.OW.pure rfl rfl rfl (E.PV.fieldAddr fa28_0 rfl rfl) ?_
  refine E.OW.pure rfl rfl rfl (E.PV.loads (i := 1) is24 rfl rfl rfl rfl) ?_
  (refine E.OW.call nm59 rfl rfl rfl rfl rfl rfl _ (fun w hw => rTwin_ok _ _ _ _ g.l w ?_ ?_) ?_; (focus (omega)); (focus (refine hw.rd ?_; assumption)); rintro _ _ ⟨AF, cF, rfl, rfl⟩)
  refine E.OW.pure rfl rfl rfl (E.PV.fieldAddr fa28_0 rfl rfl) ?_
  refine E.OW.store (i := 2) in24.size rfl rfl rfl rfl rfl rfl rfl rfl rfl ?_
  refine E.OW.nil ?_
  refine E.then_n ?_
  refine E.CW.seq ?_
  refine E.CW.nilrow 5 1 ?_
  refine E.CW.region ?_
  refine E.OW.pure rfl rfl rfl (E.PV.fieldAddr fa28_1 rfl rfl) ?_
  refine E.OW.pure rfl rfl rfl (E.PV.load (i := 1) na22 rfl rfl rfl rfl) ?_
  refine E.OW.append0 (i := 0) Try.underlying22 in5 rfl rfl (by decide) rfl rfl rfl rfl rfl rfl rfl (E.rdc hX2) ?_ ?_ ?_ ?_ (fun A3 c3 => ?_); (focus ((first | rfl | (simp; done) | omega))); (focus ((first | exact E.ints_one | exact E.u8s_one | (simp [Value.oneCell']; done)))); (focus ((unfold maxLen; omega))); (focus ((first | omega | (simp only [List.length_append, List.length_cons, List.length_nil] at *; omega) | (unfold maxLen at *; omega))))
  refine E.OW.pure rfl rfl rfl (E.PV.fieldAddr fa28_1 rfl rfl) ?_
  refine E.OW.store (i := 1) in22.size rfl rfl rfl rfl rfl rfl rfl rfl rfl ?_
  refine E.OW.nil ?_
  refine E.then_n ?_
  refine E.CW.seq ?_
  refine E.CW.region ?_
  refine E.OW.pure rfl rfl rfl (E.PV.fieldAddr fa28_2 rfl rfl) ?_
  refine E.OW.pure rfl rfl rfl (E.PV.load (i := 0) na25 rfl rfl rfl rfl) ?_
  refine E.OW.pure rfl rfl rfl (E.PV.assign rfl rfl) ?_
  refine E.OW.nil ?_
  refine E.then_n ?_
  refine E.CW.seq ?_
  refine E.CW.region ?_
  refine E.OW.pure rfl rfl rfl (E.PV.fieldAddr fa28_2 rfl rfl) ?_
  refine E.OW.store (i := 0) in25.size rfl rfl rfl rfl rfl rfl rfl rfl rfl ?_
  refine E.OW.nil ?_
  refine E.then_n ?_
  refine E.CW.seq ?_
  refine E.CW.seq ?_
  refine E.CW.nilrow 33 8 ?_
  refine E.CW.tmsnil ?_
  refine E.CW.region ?_
  refine E.OW.pure rfl rfl rfl (E.PV.assign rfl rfl) ?_
  refine E.OW.nil ?_
  refine E.then_n ?_
  refine E.CW.block ?_
  refine E.CW.loopk [1, 2, 3] 3 rfl rfl (fun mm mods Hm => ∃ k : Nat, ∃ D : Option Addr, ∃ e : Nat, ∃ tt : List E.Tm, mm = g.ts.length - k ∧ mods = [(4, .int .i64 k)] ∧ Hm = [E.HP.tms tt, E.HP.row 33 8 D tt.length e (E.tms tt), E.HP.blk B1 28 [.int .i64 g.a, .int .i64 g.b, .slice AF g.l.length cF, .slice A3 g.s.length c3, .slice D tt.length e, .int .u64 g.st]] ∧ (k ≤ g.ts.length ∧ tt.length = k ∧ tt.map (·.q) = (g.ts.take k).map (·.q))) (g.ts.length) ?_ ?_
  · exact ⟨[(4, _)], (by repeat (first | exact E.cov_nil | refine ⟨rfl, ?_⟩)), 0, none, 0, [], rfl, rfl, rfl, by omega, rfl, by simp⟩
  · rintro _ _ _ ⟨k, D, e, tt, rfl, rfl, rfl, hk, htl, htq⟩
    refine E.CW.seq ?_
    refine E.CW.seq ?_
    refine E.CW.region ?_
    refine E.OW.pure rfl rfl rfl (E.PV.move rfl rfl) ?_
    refine E.OW.pure rfl rfl rfl (E.PV.move rfl rfl) ?_
    refine E.OW.pure rfl rfl rfl (E.PV.len Try.underlying25 rfl rfl) ?_
    refine E.OW.pure rfl rfl rfl (E.PV.lss rfl rfl rfl) ?_
    refine E.OW.nil ?_
    refine E.then_n ?_
    refine E.CW.cond rfl (fun hc => ?_) (fun hc => ?_)
    · simp only [E.b0, E.b1, E.b2, E.b3, E.b4, E.b5, E.b6, E.b7, E.b8, E.b9, E.b10, E.b11, E.b12, E.b13, E.b14, E.b15, E.b16, E.b17, E.b18, E.b19, E.b20, reduceCtorEq] at hc
      all_goals (
        refine E.CW.skip ?_
        refine E.then_n ?_
        refine E.CW.seq ?_
        refine E.CW.block ?_
        refine E.CW.drawx mixed [] rfl ?_
        all_goals (refine E.AW.first 0 rfl (by kernel_rfl) (by kernel_rfl) (by kernel_rfl) rfl rfl rfl (E.PV.fieldAddr fa28_2 rfl rfl) ?_)
        all_goals (refine E.AW.first 2 rfl (by kernel_rfl) (by kernel_rfl) (by kernel_rfl) rfl rfl rfl (E.PV.move rfl rfl) ?_)
        all_goals (refine E.AW.first 3 rfl (by kernel_rfl) (by kernel_rfl) (by kernel_rfl) rfl rfl rfl (E.PV.move rfl rfl) ?_)
        all_goals (refine E.AW.first 4 rfl (by kernel_rfl) (by kernel_rfl) (by kernel_rfl) rfl rfl rfl (E.PV.indexAddr (E.rdc hX3) Try.underlying25 in33 rfl rfl rfl rfl ?_ ?_ (by decide)) ?_; (focus (first | (simp; done) | (simp; omega))); (focus (omega)))
        all_goals (refine E.AW.first 5 rfl (by kernel_rfl) (by kernel_rfl) (by kernel_rfl) rfl rfl rfl (E.PV.load_tm (E.rdc hX3) is33 rfl rfl ?_) ?_; (focus (omega)))
        all_goals (
          refine E.AW.two 1 6 (by kernel_rfl) rfl rfl ?ga1 ?gb1
          case' ga1 =>
              all_goals (refine E.OW.pure rfl rfl rfl (E.PV.load (i := 2) na25 rfl rfl rfl rfl) ?_)
              all_goals (refine E.AW.nil [] rfl ?_)
              all_goals (refine E.AW.one 6 (by kernel_rfl) rfl ?_)
              all_goals ((refine E.OW.call nm22 rfl rfl rfl rfl rfl rfl _ (fun w hw => TwinTeam_ok (g.ts.getD k E.Tm.z) w (hw.rdm (hg.m _ (E.Tm.mem (by omega)))) (E.Cfg.fit_m hgf _ (E.Tm.mem (by omega)))) ?_; rintro _ _ ⟨mT, rfl, rfl, hmT⟩))
              all_goals (refine E.AW.nil [] rfl ?_)
              all_goals (refine E.AW.one 7 (by kernel_rfl) rfl ?_)
              all_goals (refine E.OW.buildSlice (Et := 33) (sz := 8) (cs := E.tms [mT]) (ps := [(0, .tmp 28)]) rfl rfl rfl rfl rfl (by simp) (by unfold maxLen; omega) (fun w => bsl25_1_0 _ _ _ _ _ _ _ _ _ _ _ _ _ _ w) (fun AL => ?_))
              all_goals (refine E.AW.nil [] rfl ?_)
              all_goals (refine E.AW.one 8 (by kernel_rfl) rfl ?_)
              all_goals (refine E.OW.app_tm (i := 2) (j := 0) Try.underlying25 in33 rfl rfl rfl rfl rfl rfl rfl rfl rfl rfl ?_ ?_ (fun AT cT => ?_); (focus (unfold maxLen; omega)); (focus (omega)))
              all_goals (refine E.AW.nil [] rfl ?_)
              all_goals (refine E.AW.first 9 rfl (by kernel_rfl) (by kernel_rfl) (by kernel_rfl) rfl rfl rfl (E.PV.fieldAddr fa28_2 rfl rfl) ?_)
              all_goals (refine E.AW.one 10 (by kernel_rfl) rfl ?_)
              all_goals (refine E.OW.store (i := 3) in25.size rfl rfl rfl rfl rfl rfl rfl rfl rfl ?_)
              all_goals (refine E.AW.nil [] rfl ?_)
              all_goals (refine E.AW.done (by kernel_rfl) ?_)
          case' gb1 =>
              all_goals ((refine E.OW.call nm22 rfl rfl rfl rfl rfl rfl _ (fun w hw => TwinTeam_ok (g.ts.getD k E.Tm.z) w (hw.rdm (hg.m _ (E.Tm.mem (by omega)))) (E.Cfg.fit_m hgf _ (E.Tm.mem (by omega)))) ?_; rintro _ _ ⟨mT, rfl, rfl, hmT⟩))
              all_goals (refine E.AW.nil [] rfl ?_)
              all_goals (
                refine E.AW.two 1 7 (by kernel_rfl) rfl rfl ?ga2 ?gb2
                case' ga2 =>
                    all_goals (refine E.OW.pure rfl rfl rfl (E.PV.load (i := 3) na25 rfl rfl rfl rfl) ?_)
                    all_goals (refine E.AW.nil [] rfl ?_)
                    all_goals (refine E.AW.one 7 (by kernel_rfl) rfl ?_)
                    all_goals (refine E.OW.buildSlice (Et := 33) (sz := 8) (cs := E.tms [mT]) (ps := [(0, .tmp 28)]) rfl rfl rfl rfl rfl (by simp) (by unfold maxLen; omega) (fun w => bsl25_1_0 _ _ _ _ _ _ _ _ _ _ _ _ _ _ w) (fun AL => ?_))
                    all_goals (refine E.AW.nil [] rfl ?_)
                    all_goals (refine E.AW.one 8 (by kernel_rfl) rfl ?_)
                    all_goals (refine E.OW.app_tm (i := 2) (j := 0) Try.underlying25 in33 rfl rfl rfl rfl rfl rfl rfl rfl rfl rfl ?_ ?_ (fun AT cT => ?_); (focus (unfold maxLen; omega)); (focus (omega)))
                    all_goals (refine E.AW.nil [] rfl ?_)
                    all_goals (refine E.AW.first 9 rfl (by kernel_rfl) (by kernel_rfl) (by kernel_rfl) rfl rfl rfl (E.PV.fieldAddr fa28_2 rfl rfl) ?_)
                    all_goals (refine E.AW.one 10 (by kernel_rfl) rfl ?_)
                    all_goals (refine E.OW.store (i := 3) in25.size rfl rfl rfl rfl rfl rfl rfl rfl rfl ?_)
                    all_goals (refine E.AW.nil [] rfl ?_)
                    all_goals (refine E.AW.done (by kernel_rfl) ?_)
                case' gb2 =>
                    all_goals (refine E.OW.buildSlice (Et := 33) (sz := 8) (cs := E.tms [mT]) (ps := [(0, .tmp 28)]) rfl rfl rfl rfl rfl (by simp) (by unfold maxLen; omega) (fun w => bsl25_1_0 _ _ _ _ _ _ _ _ _ _ _ _ _ _ w) (fun AL => ?_))
                    all_goals (refine E.AW.nil [] rfl ?_)
                    all_goals (refine E.AW.one 1 (by kernel_rfl) rfl ?_)
                    all_goals (refine E.OW.pure rfl rfl rfl (E.PV.load (i := 4) na25 rfl rfl rfl rfl) ?_)
                    all_goals (refine E.AW.nil [] rfl ?_)
                    all_goals (refine E.AW.one 8 (by kernel_rfl) rfl ?_)
                    all_goals (refine E.OW.app_tm (i := 2) (j := 0) Try.underlying25 in33 rfl rfl rfl rfl rfl rfl rfl rfl rfl rfl ?_ ?_ (fun AT cT => ?_); (focus (unfold maxLen; omega)); (focus (omega)))
                    all_goals (refine E.AW.nil [] rfl ?_)
                    all_goals (refine E.AW.first 9 rfl (by kernel_rfl) (by kernel_rfl) (by kernel_rfl) rfl rfl rfl (E.PV.fieldAddr fa28_2 rfl rfl) ?_)
                    all_goals (refine E.AW.one 10 (by kernel_rfl) rfl ?_)
                    all_goals (refine E.OW.store (i := 3) in25.size rfl rfl rfl rfl rfl rfl rfl rfl rfl ?_)
                    all_goals (refine E.AW.nil [] rfl ?_)
                    all_goals (refine E.AW.done (by kernel_rfl) ?_)))
        all_goals (
          skip
          refine E.blk_n ?_
          refine E.then_n ?_
          refine E.CW.tmsnoc 2 2 rfl rfl ?_
          refine E.CW.region ?_
          refine E.OW.pure rfl rfl rfl (E.PV.move rfl rfl) ?_
          refine E.OW.pure rfl rfl rfl (E.PV.add_i64 rfl rfl rfl ?_) ?_; (focus (omega))
          refine E.OW.pure rfl rfl rfl (E.PV.assign rfl rfl) ?_
          refine E.OW.nil ?_
          refine E.then_nf ?_
          refine ⟨_, [(4, _)], [0, 1, 0, 0, 0, 0], _, ?_, by repeat (first | exact E.cov_nil | refine ⟨rfl, ?_⟩), rfl, k + 1, AT, cT, tt ++ [mT], rfl, rfl, rfl, by omega, by simp; omega, Cf.map_take htq (by omega) hmT⟩
          omega))
    · simp only [E.b0, E.b1, E.b2, E.b3, E.b4, E.b5, E.b6, E.b7, E.b8, E.b9, E.b10, E.b11, E.b12, E.b13, E.b14, E.b15, E.b16, E.b17, E.b18, E.b19, E.b20, reduceCtorEq] at hc
      all_goals (
        refine E.CW.exit ?_
        refine E.then_x ?_
        refine E.then_x ?_
        refine E.blk_eq ?_
        refine E.then_n ?_
        refine E.CW.seq ?_
        refine E.CW.gather [4, 3, 1, 0, 0, 0] 4 rfl rfl ?_
        refine E.CW.region ?_
        refine E.OW.pure rfl rfl rfl (E.PV.loads (i := 1) is28 rfl rfl rfl rfl) ?_
        refine E.OW.store (i := 2) in28.size rfl rfl rfl rfl rfl rfl rfl rfl rfl ?_
        refine E.OW.nil ?_
        refine E.then_n ?_
        refine E.CW.ret ?_
        refine E.KR.rv1 [1] Try.results21 (E.rv.cell is28 rfl (E.sli 0 rfl) rfl) rfl ?_
        have hkk : k = g.ts.length := by omega
        exact ⟨⟨g.a, g.b, g.l, g.s, tt, g.st, AF, cF, A3, c3, D, e⟩, rfl, rfl, E.Cfg.q_eq.2 ⟨rfl, rfl, rfl, rfl, by rw [htq, hkk, List.take_length], rfl⟩⟩)
end Go.Proofs.Ytbdfljgnlendjaa
