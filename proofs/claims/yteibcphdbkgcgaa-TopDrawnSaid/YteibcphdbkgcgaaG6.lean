/- Walks (printed by gen.py). -/
import Derived.Test.YteibcphdbkgcgaaG5
import Derived.Test.YteibcphdbkgcgaaDe
namespace Go.Proofs.Yteibcphdbkgcgaa
open Go Go.RowKit
set_option linter.unusedSimpArgs false
set_option linter.unusedVariables false

set_option maxRecDepth 100000 in
theorem tkv_ok (A : Option Addr) (c : Nat) (l : List UInt8) (w0 : World) (h8 : l.length ≤ 8) (hX : E.Rd w0 (E.Old w0) A (E.u8s l)) :
    Calls Try.prog 71 #[.slice A l.length c] w0 (E.Post w0 (E.Old w0) fun v Hn => v = .int .u64 (Cf.beval l) ∧ Hn = []) := by
  refine E.calls_of (vs := [.slice A l.length c]) (H := []) Try.func71 Try.ntmps71 rfl rfl (E.HA.start w0) ?_
  refine E.CW.seq ?_
  refine E.CW.region ?_
  refine E.OW.pure rfl rfl rfl (E.PV.assign rfl rfl) ?_
  refine E.OW.nil ?_
  refine E.then_n ?_
  refine E.CW.seq ?_
  refine E.CW.region ?_
  refine E.OW.pure rfl rfl rfl (E.PV.assign rfl rfl) ?_
  refine E.OW.nil ?_
  refine E.then_n ?_
  refine E.CW.seq ?_
  refine E.CW.seq ?_
  refine E.CW.region ?_
  refine E.OW.pure rfl rfl rfl (E.PV.move rfl rfl) ?_
  refine E.OW.pure rfl rfl rfl (E.PV.len Try.underlying22 rfl rfl) ?_
  refine E.OW.pure rfl rfl rfl (E.PV.move rfl rfl) ?_
  refine E.OW.nil ?_
  refine E.then_n ?_
  refine E.CW.block ?_
  refine E.CW.loopk [6, 7] 0 rfl rfl (fun mm mods Hm => ∃ k : Nat, mm = l.length - k ∧ mods = [(8, .int .i64 k), (3, .int .u64 (Cf.beval (l.take k)))] ∧ Hm = [] ∧ k ≤ l.length) (l.length) ?_ ?_
  · exact ⟨[(8, _), (3, _)], (by repeat (first | exact E.cov_nil | refine ⟨rfl, ?_⟩)), 0, rfl, rfl, rfl, by omega⟩
  · rintro _ _ _ ⟨k, rfl, rfl, rfl, hk⟩
    refine E.CW.seq ?_
    refine E.CW.region ?_
    refine E.OW.pure rfl rfl rfl (E.PV.lss rfl rfl rfl) ?_
    refine E.OW.nil ?_
    refine E.then_n ?_
    refine E.CW.seq ?_
    refine E.CW.cond rfl (fun hc => ?_) (fun hc => ?_)
    · simp only [E.b0, E.b1, E.b2, E.b3, E.b4, E.b5, E.b6, E.b7, E.b8, E.b9, E.b10, E.b11, E.b12, E.b13, E.b14, E.b15, E.b16, E.b17, E.b18, E.b19, E.b20, reduceCtorEq] at hc
      all_goals (
        refine E.CW.skip ?_
        refine E.then_n ?_
        refine E.CW.seq ?_
        refine E.CW.block ?_
        refine E.CW.seq ?_
        have hbv := Cf.beval_small (l := l.take k) (by simp; omega)
        have hy := (l.getD k 0).toNat_lt
        refine E.CW.region ?_
        refine E.OW.pure rfl rfl rfl (E.PV.indexAddr1 (E.rdc hX) Try.underlying22 in5 rfl rfl rfl rfl ?_ ?_) ?_; (focus (first | (simp; done) | (simp; omega))); (focus (omega))
        refine E.OW.pure rfl rfl rfl (E.PV.load_u8 (E.rdc hX) na5 rfl rfl ?_) ?_; (focus (omega))
        refine E.OW.pure rfl rfl rfl (E.PV.assign rfl rfl) ?_
        refine E.OW.nil ?_
        refine E.then_n ?_
        refine E.CW.region ?_
        refine E.OW.pure rfl rfl rfl (E.PV.move rfl rfl) ?_
        refine E.OW.pure rfl rfl rfl (E.PV.shl rfl rfl rfl ?_) ?_; (focus (omega))
        refine E.OW.put 13 (.int .u64 ((Cf.beval (l.take k)) * 256)) rfl (by rw [show (2 : Int) ^ min (Int.toNat 8) IntKind.u64.bits = 256 from by decide]; refine congrArg (Value.int .u64) ?_; simp only [IntKind.wrap_u64]; omega) ?_
        refine E.OW.pure rfl rfl rfl (E.PV.move rfl rfl) ?_
        refine E.OW.pure rfl rfl rfl (E.PV.conv_in Try.underlying5 Try.underlying26 rfl rfl ?_) ?_; (focus (first | exact E.wrap_u8 _ | (simp only [IntKind.wrap_i64, IntKind.wrap_u64, IntKind.wrap_u8]; omega)))
        refine E.OW.pure rfl rfl rfl (E.PV.or8 ?_ ?_ rfl rfl rfl) ?_; (focus (omega)); (focus (omega))
        refine E.OW.pure rfl rfl rfl (E.PV.assign rfl rfl) ?_
        refine E.OW.nil ?_
        refine E.blk_n ?_
        refine E.then_n ?_
        refine E.CW.region ?_
        refine E.OW.pure rfl rfl rfl (E.PV.add_i64 rfl rfl rfl ?_) ?_; (focus (omega))
        refine E.OW.pure rfl rfl rfl (E.PV.move rfl rfl) ?_
        refine E.OW.nil ?_
        refine E.then_nf ?_
        refine ⟨_, [(8, _), (3, _)], [], _, ?_, by repeat (first | exact E.cov_nil | refine ⟨rfl, ?_⟩), rfl, k + 1, rfl, by rw [Cf.beval_take (show k < l.length by omega)]; rfl, rfl, by omega⟩
        omega)
    · simp only [E.b0, E.b1, E.b2, E.b3, E.b4, E.b5, E.b6, E.b7, E.b8, E.b9, E.b10, E.b11, E.b12, E.b13, E.b14, E.b15, E.b16, E.b17, E.b18, E.b19, E.b20, reduceCtorEq] at hc
      all_goals (
        refine E.CW.exit ?_
        refine E.then_x ?_
        refine E.then_x ?_
        refine E.blk_eq ?_
        refine E.then_n ?_
        refine E.CW.seq ?_
        refine E.CW.region ?_
        refine E.OW.pure rfl rfl rfl (E.PV.move rfl rfl) ?_
        refine E.OW.pure rfl rfl rfl (E.PV.assign rfl rfl) ?_
        refine E.OW.nil ?_
        refine E.then_n ?_
        refine E.CW.ret ?_
        refine E.KR.one [] Try.results71 rfl rfl ?_
        obtain rfl : k = l.length := by omega
        exact ⟨by rw [List.take_length], rfl⟩)

set_option maxRecDepth 100000 in
theorem TB_ok (A : Option Addr) (c : Nat) (b : List UInt8) (p m : Nat) (w0 : World) (hc8 : b.length ≤ c) (hl : b.length ≤ 100000) (hp : p ≤ b.length) (hm : m ≤ 100000) (hX : E.Rd w0 (E.Old w0) A (E.u8s b)) :
    Calls Try.prog 59 #[.slice A b.length c, .int .i64 p, .int .i64 m] w0 (E.Post w0 (E.Old w0) fun v Hn => ∃ A2 c2 L q e, v = .tuple #[.slice A2 (List.length L) c2, .int .i64 q, .int .i64 e] ∧ Hn = [E.HP.row 5 1 A2 (List.length L) c2 (E.u8s L)] ∧ (p + m ≤ b.length ∧ L = (b.drop p).take m ∧ q = p + m ∧ e = 0 ∨ b.length < p + m ∧ L = [] ∧ e = 10)) := by
  refine E.calls_of (vs := [.slice A b.length c, .int .i64 p, .int .i64 m]) (H := []) Try.func59 Try.ntmps59 rfl rfl (E.HA.start w0) ?_
  refine E.CW.seq ?_
  refine E.CW.region ?_
  refine E.OW.pure rfl rfl rfl (E.PV.assign rfl rfl) ?_
  refine E.OW.pure rfl rfl rfl (E.PV.assign rfl rfl) ?_
  refine E.OW.pure rfl rfl rfl (E.PV.assign rfl rfl) ?_
  refine E.OW.nil ?_
  refine E.then_n ?_
  refine E.CW.seq ?_
  refine E.CW.seq ?_
  refine E.CW.region ?_
  refine E.OW.pure rfl rfl rfl (E.PV.move rfl rfl) ?_
  refine E.OW.pure rfl rfl rfl (E.PV.lss rfl rfl rfl) ?_
  refine E.OW.pure rfl rfl rfl (E.PV.move rfl rfl) ?_
  all_goals (refine E.OW.put 11 (.bool false) (v := .bool false) rfl rfl ?_)
  all_goals (refine E.OW.pure rfl rfl rfl (E.PV.move rfl rfl) ?_)
  all_goals (refine E.OW.pure rfl rfl rfl (E.PV.move rfl rfl) ?_)
  all_goals (refine E.OW.pure rfl rfl rfl (E.PV.len Try.underlying22 rfl rfl) ?_)
  all_goals (refine E.OW.pure rfl rfl rfl (E.PV.gtr rfl rfl rfl) ?_)
  all_goals (refine E.OW.pure rfl rfl rfl (E.PV.pick_f rfl rfl rfl) ?_)
  all_goals (refine E.OW.pure rfl rfl rfl (E.PV.move rfl rfl) ?_)
  all_goals (refine E.OW.put 17 (.bool false) rfl (congrArg Value.bool ?_) ?_; (focus ((simp only [E.b0, E.b1, E.b2, E.b3, E.b4, E.b5, E.b6, E.b7, E.b8, E.b9, E.b10, E.b11, E.b12, E.b13, E.b14, E.b15, E.b16, E.b17, E.b18, E.b19, E.b20]; omega))))
  all_goals (refine E.OW.pure rfl rfl rfl (E.PV.move rfl rfl) ?_)
  all_goals (refine E.OW.pure rfl rfl rfl (E.PV.lss rfl rfl rfl) ?_)
  all_goals (refine E.OW.pure rfl rfl rfl (E.PV.pick_f rfl rfl rfl) ?_)
  all_goals (
    refine E.OW.nil ?_
    refine E.then_n ?_
    refine E.CW.cond rfl (fun hc => ?_) (fun hc => ?_)
    · (cases hc; done)
    · simp only [E.b0, E.b1, E.b2, E.b3, E.b4, E.b5, E.b6, E.b7, E.b8, E.b9, E.b10, E.b11, E.b12, E.b13, E.b14, E.b15, E.b16, E.b17, E.b18, E.b19, E.b20, reduceCtorEq] at hc
      all_goals (
        refine E.CW.skip ?_
        refine E.then_n ?_
        refine E.CW.seq ?_
        refine E.CW.seq ?_
        refine E.CW.region ?_
        refine E.OW.pure rfl rfl rfl (E.PV.move rfl rfl) ?_
        refine E.OW.pure rfl rfl rfl (E.PV.len Try.underlying22 rfl rfl) ?_
        refine E.OW.pure rfl rfl rfl (E.PV.move rfl rfl) ?_
        refine E.OW.pure rfl rfl rfl (E.PV.sub_i64 rfl rfl rfl ?_) ?_; (focus (omega))
        refine E.OW.pure rfl rfl rfl (E.PV.move rfl rfl) ?_
        refine E.OW.pure rfl rfl rfl (E.PV.lss rfl rfl rfl) ?_
        refine E.OW.nil ?_
        refine E.then_n ?_
        refine E.CW.cond rfl (fun hc => ?_) (fun hc => ?_)
        · simp only [E.b0, E.b1, E.b2, E.b3, E.b4, E.b5, E.b6, E.b7, E.b8, E.b9, E.b10, E.b11, E.b12, E.b13, E.b14, E.b15, E.b16, E.b17, E.b18, E.b19, E.b20, reduceCtorEq] at hc
          all_goals (
            refine E.CW.seq ?_
            refine E.CW.nilrow 5 1 ?_
            refine E.CW.region ?_
            refine E.OW.pure rfl rfl rfl (E.PV.assign rfl rfl) ?_
            refine E.OW.pure rfl rfl rfl (E.PV.assign rfl rfl) ?_
            refine E.OW.pure rfl rfl rfl (E.PV.assign rfl rfl) ?_
            refine E.OW.nil ?_
            refine E.then_n ?_
            refine E.CW.ret ?_
            refine E.then_ret ?_
            refine E.KR.three [0] Try.results59 rfl rfl rfl rfl ?_
            exact ⟨none, 0, [], _, _, rfl, rfl, .inr ⟨by omega, rfl, rfl⟩⟩)
        · simp only [E.b0, E.b1, E.b2, E.b3, E.b4, E.b5, E.b6, E.b7, E.b8, E.b9, E.b10, E.b11, E.b12, E.b13, E.b14, E.b15, E.b16, E.b17, E.b18, E.b19, E.b20, reduceCtorEq] at hc
          all_goals (
            refine E.CW.skip ?_
            refine E.then_n ?_
            refine E.CW.seq ?_
            refine E.CW.region ?_
            refine E.OW.pure rfl rfl rfl (E.PV.move rfl rfl) ?_
            refine E.OW.pure rfl rfl rfl (E.PV.move rfl rfl) ?_
            refine E.OW.pure rfl rfl rfl (E.PV.move rfl rfl) ?_
            refine E.OW.pure rfl rfl rfl (E.PV.move rfl rfl) ?_
            refine E.OW.pure rfl rfl rfl (E.PV.add_i64 rfl rfl rfl ?_) ?_; (focus (omega))
            refine E.OW.pure rfl rfl rfl (E.PV.subs (lo := p) (hi := p + m) Try.underlying22 in5 rfl rfl rfl rfl (by omega) (by omega)) ?_; refine E.OW.put 32 (.slice (E.subA A c p) (List.length ((b.drop p).take m)) (c - p)) rfl (by rw [List.length_take, List.length_drop, Nat.min_eq_left (by omega), Nat.add_sub_cancel_left]) ?_
            (refine E.OW.call nm40 rfl rfl rfl rfl rfl rfl _ (fun w hw => ClU_ok _ _ ((b.drop p).take m) w (by simp; omega) (hw.rd (E.rd_sub hX (by omega) hc8))) ?_; rintro _ _ ⟨AK, cK, rfl, rfl⟩)
            refine E.OW.pure rfl rfl rfl (E.PV.move rfl rfl) ?_
            refine E.OW.pure rfl rfl rfl (E.PV.move rfl rfl) ?_
            refine E.OW.pure rfl rfl rfl (E.PV.add_i64 rfl rfl rfl ?_) ?_; (focus (omega))
            refine E.OW.pure rfl rfl rfl (E.PV.assign rfl rfl) ?_
            refine E.OW.pure rfl rfl rfl (E.PV.assign rfl rfl) ?_
            refine E.OW.pure rfl rfl rfl (E.PV.assign rfl rfl) ?_
            refine E.OW.nil ?_
            refine E.then_n ?_
            refine E.CW.ret ?_
            refine E.KR.three [0] Try.results59 rfl rfl rfl rfl ?_
            exact ⟨_, _, _, _, _, rfl, rfl, .inl ⟨by omega, rfl, rfl, rfl⟩⟩)))

set_option maxRecDepth 100000 in
theorem TU_ok (A : Option Addr) (c : Nat) (b : List UInt8) (p m : Nat) (w0 : World) (hc8 : b.length ≤ c) (hl : b.length ≤ 100000) (hp : p ≤ b.length) (hm : 1 ≤ m ∧ m ≤ 8) (hX : E.Rd w0 (E.Old w0) A (E.u8s b)) :
    Calls Try.prog 61 #[.slice A b.length c, .int .i64 p, .int .i64 m] w0 (E.Post w0 (E.Old w0) fun v Hn => ∃ x q e, v = .tuple #[.int .u64 x, .int .i64 q, .int .i64 e] ∧ Hn = [] ∧ (p + m ≤ b.length ∧ x = Cf.beval ((b.drop p).take m) ∧ q = p + m ∧ e = 0 ∨ b.length < p + m ∧ x = 0 ∧ e = 10)) := by
  refine E.calls_of (vs := [.slice A b.length c, .int .i64 p, .int .i64 m]) (H := []) Try.func61 Try.ntmps61 rfl rfl (E.HA.start w0) ?_
  refine E.CW.seq ?_
  refine E.CW.region ?_
  refine E.OW.pure rfl rfl rfl (E.PV.assign rfl rfl) ?_
  refine E.OW.pure rfl rfl rfl (E.PV.assign rfl rfl) ?_
  refine E.OW.pure rfl rfl rfl (E.PV.assign rfl rfl) ?_
  refine E.OW.nil ?_
  refine E.then_n ?_
  refine E.CW.seq ?_
  refine E.CW.seq ?_
  refine E.CW.region ?_
  refine E.OW.pure rfl rfl rfl (E.PV.move rfl rfl) ?_
  refine E.OW.pure rfl rfl rfl (E.PV.lss rfl rfl rfl) ?_
  refine E.OW.pure rfl rfl rfl (E.PV.move rfl rfl) ?_
  all_goals (refine E.OW.put 12 (.bool false) rfl (congrArg Value.bool ?_) ?_; (focus ((simp only [E.b0, E.b1, E.b2, E.b3, E.b4, E.b5, E.b6, E.b7, E.b8, E.b9, E.b10, E.b11, E.b12, E.b13, E.b14, E.b15, E.b16, E.b17, E.b18, E.b19, E.b20]; omega))))
  all_goals (refine E.OW.pure rfl rfl rfl (E.PV.move rfl rfl) ?_)
  all_goals (refine E.OW.pure rfl rfl rfl (E.PV.gtr rfl rfl rfl) ?_)
  all_goals (refine E.OW.pure rfl rfl rfl (E.PV.pick_f rfl rfl rfl) ?_)
  all_goals (
    refine E.OW.nil ?_
    refine E.then_n ?_
    refine E.CW.cond rfl (fun hc => ?_) (fun hc => ?_)
    · simp only [E.b0, E.b1, E.b2, E.b3, E.b4, E.b5, E.b6, E.b7, E.b8, E.b9, E.b10, E.b11, E.b12, E.b13, E.b14, E.b15, E.b16, E.b17, E.b18, E.b19, E.b20, reduceCtorEq] at hc
      all_goals (exfalso; omega)
    · simp only [E.b0, E.b1, E.b2, E.b3, E.b4, E.b5, E.b6, E.b7, E.b8, E.b9, E.b10, E.b11, E.b12, E.b13, E.b14, E.b15, E.b16, E.b17, E.b18, E.b19, E.b20, reduceCtorEq] at hc
      all_goals (
        refine E.CW.skip ?_
        refine E.then_n ?_
        refine E.CW.seq ?_
        refine E.CW.region ?_
        refine E.OW.pure rfl rfl rfl (E.PV.move rfl rfl) ?_
        refine E.OW.pure rfl rfl rfl (E.PV.move rfl rfl) ?_
        refine E.OW.pure rfl rfl rfl (E.PV.move rfl rfl) ?_
        (refine E.OW.call nm59 rfl rfl rfl rfl rfl rfl _ (fun w hw => TB_ok _ _ _ _ _ w ?_ ?_ ?_ ?_ ?_) ?_; (focus (assumption)); (focus (assumption)); (focus (assumption)); (focus (omega)); (focus (refine hw.rd ?_; assumption)); rintro _ _ ⟨AL, cL, LL, qL, eL, rfl, rfl, hTB⟩)
        refine E.OW.pure rfl rfl rfl (E.PV.move rfl rfl) ?_
        refine E.OW.pure rfl rfl rfl (E.PV.extract rfl rfl rfl) ?_
        refine E.OW.pure rfl rfl rfl (E.PV.extract rfl rfl rfl) ?_
        refine E.OW.pure rfl rfl rfl (E.PV.extract rfl rfl rfl) ?_
        refine E.OW.pure rfl rfl rfl (E.PV.assign rfl rfl) ?_
        refine E.OW.pure rfl rfl rfl (E.PV.assign rfl rfl) ?_
        refine E.OW.pure rfl rfl rfl (E.PV.assign rfl rfl) ?_
        refine E.OW.nil ?_
        refine E.then_n ?_
        refine E.CW.seq ?_
        have hLl : LL.length ≤ 8 := by rcases hTB with ⟨_, h, _⟩ | ⟨_, h, _⟩ <;> rw [h] <;> simp <;> omega
        refine E.CW.region ?_
        refine E.OW.pure rfl rfl rfl (E.PV.move rfl rfl) ?_
        (refine E.OW.call nm71 rfl rfl rfl rfl rfl rfl _ (fun w hw => tkv_ok _ _ _ w ?_ ?_) ?_; (focus (assumption)); (focus (exact hw.rdrow (i := 0) rfl)); rintro _ _ ⟨rfl, rfl⟩)
        refine E.OW.pure rfl rfl rfl (E.PV.move rfl rfl) ?_
        refine E.OW.pure rfl rfl rfl (E.PV.move rfl rfl) ?_
        refine E.OW.pure rfl rfl rfl (E.PV.assign rfl rfl) ?_
        refine E.OW.pure rfl rfl rfl (E.PV.assign rfl rfl) ?_
        refine E.OW.pure rfl rfl rfl (E.PV.assign rfl rfl) ?_
        refine E.OW.nil ?_
        refine E.then_n ?_
        refine E.CW.ret ?_
        refine E.KR.three [] Try.results61 rfl rfl rfl rfl ?_
        exact ⟨_, _, _, rfl, rfl, by rcases hTB with ⟨h1, h2, h3, h4⟩ | ⟨h1, h2, h3⟩; exact .inl ⟨h1, by rw [h2], h3, h4⟩; exact .inr ⟨h1, by rw [h2]; rfl, h3⟩⟩))

set_option maxRecDepth 100000 in
theorem num_ok (B : Nat) (A : Option Addr) (c : Nat) (b : List UInt8) (p : Nat) (e : Int) (m : Nat) (S : Nat → Prop) (w0 : World) (hm : 1 ≤ m ∧ m ≤ 8) (hS : (E.HP.blk B 77 [.slice A b.length c, .int .i64 p, .int .i64 e]).sem S w0) (hb : ∀ k, S k → k < w0.heap.size) (hc8 : b.length ≤ c) (hl : b.length ≤ 100000) (hp : p ≤ b.length) (he : e = 0 ∨ e = 10) (hX : E.Rd w0 (E.Fm w0 S) A (E.u8s b)) :
    Calls Try.prog 36 #[.pointer (some ⟨B, 0, none⟩), .int .i64 m] w0 (E.Post w0 (E.Fm w0 S) fun v Hn => ∃ (x : Int) (p2 : Nat) (e2 : Int), v = .int .u64 x ∧ Hn = [E.HP.blk B 77 [.slice A b.length c, .int .i64 p2, .int .i64 e2]] ∧ p2 ≤ b.length ∧ (e2 = 0 ∨ e2 = 10) ∧ (0 ≤ x ∧ x < 18446744073709551616 ∧ (m = 1 → x < 256)) ∧ Cf.Res (Cf.numP m) (Cf.str b p e) x (Cf.str b p2 e2)) := by
  refine E.calls_of (vs := [.pointer (some ⟨B, 0, none⟩), .int .i64 m]) (H := [E.HP.blk B 77 [.slice A b.length c, .int .i64 p, .int .i64 e]]) Try.func36 Try.ntmps36 rfl rfl (E.HA.startM hS hb) ?_
  refine E.CW.seq ?_
  refine E.CW.region ?_
  refine E.OW.pure rfl rfl rfl (E.PV.assign rfl rfl) ?_
  refine E.OW.nil ?_
  refine E.then_n ?_
  refine E.CW.seq ?_
  refine E.CW.seq ?_
  refine E.CW.region ?_
  refine E.OW.pure rfl rfl rfl (E.PV.move rfl rfl) ?_
  refine E.OW.pure rfl rfl rfl (E.PV.nilCheck rfl rfl) ?_
  refine E.OW.pure rfl rfl rfl (E.PV.fieldAddr fa77_2 rfl rfl) ?_
  refine E.OW.pure rfl rfl rfl (E.PV.load (i := 0) na31 rfl rfl rfl rfl) ?_
  refine E.OW.pure rfl rfl rfl (E.PV.neq rfl rfl rfl) ?_
  refine E.OW.nil ?_
  refine E.then_n ?_
  refine E.CW.cond rfl (fun hc => ?_) (fun hc => ?_)
  · simp only [E.b0, E.b1, E.b2, E.b3, E.b4, E.b5, E.b6, E.b7, E.b8, E.b9, E.b10, E.b11, E.b12, E.b13, E.b14, E.b15, E.b16, E.b17, E.b18, E.b19, E.b20, reduceCtorEq] at hc
    all_goals (
      refine E.CW.seq ?_
      refine E.CW.region ?_
      refine E.OW.pure rfl rfl rfl (E.PV.assign rfl rfl) ?_
      refine E.OW.nil ?_
      refine E.then_n ?_
      refine E.CW.ret ?_
      refine E.then_ret ?_
      refine E.KR.one [0] Try.results36 rfl rfl ?_
      exact ⟨0, p, e, rfl, rfl, hp, he, by omega, Cf.res_bad (by omega) (by omega)⟩)
  · simp only [E.b0, E.b1, E.b2, E.b3, E.b4, E.b5, E.b6, E.b7, E.b8, E.b9, E.b10, E.b11, E.b12, E.b13, E.b14, E.b15, E.b16, E.b17, E.b18, E.b19, E.b20, reduceCtorEq] at hc
    all_goals (
      refine E.CW.skip ?_
      refine E.then_n ?_
      refine E.CW.seq ?_
      refine E.CW.drawx mixed [0] rfl ?_
      all_goals (refine E.AW.first 0 rfl (by kernel_rfl) (by kernel_rfl) (by kernel_rfl) rfl rfl rfl (E.PV.move rfl rfl) ?_)
      all_goals (refine E.AW.first 1 rfl (by kernel_rfl) (by kernel_rfl) (by kernel_rfl) rfl rfl rfl (E.PV.nilCheck rfl rfl) ?_)
      all_goals (refine E.AW.first 2 rfl (by kernel_rfl) (by kernel_rfl) (by kernel_rfl) rfl rfl rfl (E.PV.fieldAddr fa77_0 rfl rfl) ?_)
      all_goals (refine E.AW.first 3 rfl (by kernel_rfl) (by kernel_rfl) (by kernel_rfl) rfl rfl rfl (E.PV.load (i := 0) na22 rfl rfl rfl rfl) ?_)
      all_goals (refine E.AW.first 4 rfl (by kernel_rfl) (by kernel_rfl) (by kernel_rfl) rfl rfl rfl (E.PV.move rfl rfl) ?_)
      all_goals (refine E.AW.first 5 rfl (by kernel_rfl) (by kernel_rfl) (by kernel_rfl) rfl rfl rfl (E.PV.nilCheck rfl rfl) ?_)
      all_goals (refine E.AW.first 6 rfl (by kernel_rfl) (by kernel_rfl) (by kernel_rfl) rfl rfl rfl (E.PV.fieldAddr fa77_1 rfl rfl) ?_)
      all_goals (refine E.AW.first 7 rfl (by kernel_rfl) (by kernel_rfl) (by kernel_rfl) rfl rfl rfl (E.PV.load (i := 0) na3 rfl rfl rfl rfl) ?_)
      all_goals (refine E.AW.first 8 rfl (by kernel_rfl) (by kernel_rfl) (by kernel_rfl) rfl rfl rfl (E.PV.move rfl rfl) ?_)
      all_goals (refine E.AW.one 9 (by kernel_rfl) rfl ?_)
      all_goals ((refine E.OW.call nm61 rfl rfl rfl rfl rfl rfl _ (fun w hw => TU_ok _ _ _ _ _ w ?_ ?_ ?_ ?_ ?_) ?_; (focus (assumption)); (focus (assumption)); (focus (assumption)); (focus (assumption)); (focus (refine hw.rd ?_; assumption)); rintro _ _ ⟨xU, qU, eU, rfl, rfl, hTU⟩))
      all_goals (first | (refine E.AW.nil [0] rfl ?_) | (refine E.AW.nil [1] rfl ?_) | (refine E.AW.nil [2] rfl ?_) | (refine E.AW.nil [3] rfl ?_) | (refine E.AW.nil [4] rfl ?_) | (refine E.AW.nil [5] rfl ?_) | (refine E.AW.nil [6] rfl ?_) | (refine E.AW.nil [0] rfl ?_) | (refine E.AW.nil [0] rfl ?_))
      all_goals (refine E.AW.first 10 rfl (by kernel_rfl) (by kernel_rfl) (by kernel_rfl) rfl rfl rfl (E.PV.move rfl rfl) ?_)
      all_goals (refine E.AW.first 11 rfl (by kernel_rfl) (by kernel_rfl) (by kernel_rfl) rfl rfl rfl (E.PV.extract rfl rfl rfl) ?_)
      all_goals (refine E.AW.first 12 rfl (by kernel_rfl) (by kernel_rfl) (by kernel_rfl) rfl rfl rfl (E.PV.extract rfl rfl rfl) ?_)
      all_goals (refine E.AW.first 13 rfl (by kernel_rfl) (by kernel_rfl) (by kernel_rfl) rfl rfl rfl (E.PV.extract rfl rfl rfl) ?_)
      all_goals (refine E.AW.first 14 rfl (by kernel_rfl) (by kernel_rfl) (by kernel_rfl) rfl rfl rfl (E.PV.assign rfl rfl) ?_)
      all_goals (refine E.AW.first 15 rfl (by kernel_rfl) (by kernel_rfl) (by kernel_rfl) rfl rfl rfl (E.PV.assign rfl rfl) ?_)
      all_goals (refine E.AW.first 16 rfl (by kernel_rfl) (by kernel_rfl) (by kernel_rfl) rfl rfl rfl (E.PV.assign rfl rfl) ?_)
      all_goals (refine E.AW.done (by kernel_rfl) ?_)
      all_goals (
        skip
        refine E.then_n ?_
        refine E.CW.seq ?_
        refine E.CW.seq ?_
        refine E.CW.region ?_
        refine E.OW.pure rfl rfl rfl (E.PV.move rfl rfl) ?_
        refine E.OW.pure rfl rfl rfl (E.PV.neq rfl rfl rfl) ?_
        refine E.OW.nil ?_
        refine E.then_n ?_
        refine E.CW.cond rfl (fun hc => ?_) (fun hc => ?_)
        · simp only [E.b0, E.b1, E.b2, E.b3, E.b4, E.b5, E.b6, E.b7, E.b8, E.b9, E.b10, E.b11, E.b12, E.b13, E.b14, E.b15, E.b16, E.b17, E.b18, E.b19, E.b20, reduceCtorEq] at hc
          all_goals (
            refine E.CW.seq ?_
            obtain ⟨h1, h2, h3⟩ := hTU.resolve_left (fun h => by omega)
            obtain rfl : e = 0 := by omega
            refine E.CW.put 7 (.int .i64 10) rfl (by rw [h3]; rfl) ?_
            refine E.CW.region ?_
            refine E.OW.pure rfl rfl rfl (E.PV.move rfl rfl) ?_
            refine E.OW.pure rfl rfl rfl (E.PV.move rfl rfl) ?_
            refine E.OW.pure rfl rfl rfl (E.PV.nilCheck rfl rfl) ?_
            refine E.OW.pure rfl rfl rfl (E.PV.fieldAddr fa77_2 rfl rfl) ?_
            refine E.OW.store (i := 0) in31.size rfl rfl rfl rfl rfl rfl rfl rfl rfl ?_
            refine E.OW.nil ?_
            refine E.then_n ?_
            refine E.CW.seq ?_
            refine E.CW.region ?_
            refine E.OW.pure rfl rfl rfl (E.PV.assign rfl rfl) ?_
            refine E.OW.nil ?_
            refine E.then_n ?_
            refine E.CW.ret ?_
            refine E.then_ret ?_
            refine E.KR.one [0] Try.results36 rfl rfl ?_
            exact ⟨0, p, 10, rfl, rfl, hp, .inr rfl, by omega, Cf.res_nums h1 hp⟩)
        · simp only [E.b0, E.b1, E.b2, E.b3, E.b4, E.b5, E.b6, E.b7, E.b8, E.b9, E.b10, E.b11, E.b12, E.b13, E.b14, E.b15, E.b16, E.b17, E.b18, E.b19, E.b20, reduceCtorEq] at hc
          all_goals (
            refine E.CW.skip ?_
            refine E.then_n ?_
            refine E.CW.seq ?_
            obtain ⟨h1, h2, h3, h4⟩ := hTU.resolve_right (fun h => by omega)
            obtain rfl : e = 0 := by omega
            refine E.CW.put 6 (.int .i64 ((p + m : Nat) : Int)) rfl (by rw [h3]; rfl) ?_
            refine E.CW.region ?_
            refine E.OW.pure rfl rfl rfl (E.PV.move rfl rfl) ?_
            refine E.OW.pure rfl rfl rfl (E.PV.move rfl rfl) ?_
            refine E.OW.pure rfl rfl rfl (E.PV.nilCheck rfl rfl) ?_
            refine E.OW.pure rfl rfl rfl (E.PV.fieldAddr fa77_1 rfl rfl) ?_
            refine E.OW.store (i := 0) in3.size rfl rfl rfl rfl rfl rfl rfl rfl rfl ?_
            refine E.OW.nil ?_
            refine E.then_n ?_
            refine E.CW.seq ?_
            refine E.CW.region ?_
            refine E.OW.pure rfl rfl rfl (E.PV.move rfl rfl) ?_
            refine E.OW.pure rfl rfl rfl (E.PV.assign rfl rfl) ?_
            refine E.OW.nil ?_
            refine E.then_n ?_
            refine E.CW.ret ?_
            refine E.KR.one [0] Try.results36 rfl rfl ?_
            have hbu := Cf.beval_u64 (l := (b.drop p).take m) (by simp; omega)
            exact ⟨_, p + m, 0, rfl, rfl, h1, .inl rfl, ⟨by rw [h2]; exact hbu.1, by rw [h2]; exact hbu.2, fun hm1 => by rw [h2]; exact Cf.beval_byte (by simp; omega)⟩, by rw [h2]; exact Cf.res_num h1⟩)))

set_option maxRecDepth 100000 in
theorem nxt_ok (B : Nat) (A : Option Addr) (c : Nat) (b : List UInt8) (p : Nat) (e : Int) (S : Nat → Prop) (w0 : World) (hS : (E.HP.blk B 77 [.slice A b.length c, .int .i64 p, .int .i64 e]).sem S w0) (hb : ∀ k, S k → k < w0.heap.size) (hc8 : b.length ≤ c) (hl : b.length ≤ 100000) (hp : p ≤ b.length) (he : e = 0 ∨ e = 10) (hX : E.Rd w0 (E.Fm w0 S) A (E.u8s b)) :
    Calls Try.prog 32 #[.pointer (some ⟨B, 0, none⟩)] w0 (E.Post w0 (E.Fm w0 S) fun v Hn => ∃ (x : Nat) (p2 : Nat) (e2 : Int), v = .int .i64 x ∧ Hn = [E.HP.blk B 77 [.slice A b.length c, .int .i64 p2, .int .i64 e2]] ∧ p2 ≤ b.length ∧ (e2 = 0 ∨ e2 = 10) ∧ x < 256 ∧ Cf.Res Cf.n1 (Cf.str b p e) x (Cf.str b p2 e2)) := by
  refine E.calls_of (vs := [.pointer (some ⟨B, 0, none⟩)]) (H := [E.HP.blk B 77 [.slice A b.length c, .int .i64 p, .int .i64 e]]) Try.func32 Try.ntmps32 rfl rfl (E.HA.startM hS hb) ?_
  refine E.CW.seq ?_
  refine E.CW.region ?_
  refine E.OW.pure rfl rfl rfl (E.PV.assign rfl rfl) ?_
  refine E.OW.nil ?_
  refine E.then_n ?_
  refine E.CW.seq ?_
  refine E.CW.region ?_
  refine E.OW.pure rfl rfl rfl (E.PV.move rfl rfl) ?_
  (refine E.OW.callM nm36 rfl rfl rfl rfl rfl rfl _ 0 rfl (fun w S hw hs hb hc => num_ok _ _ _ _ _ _ 1 S w ?_ hs (fun k hk => (hb k hk).1) ?_ ?_ ?_ ?_ ?_) ?_; (focus (omega)); (focus (assumption)); (focus (assumption)); (focus (assumption)); (focus (assumption)); (focus (refine hw.rdM ?_ hb; assumption)); rintro _ _ ⟨xM, pM, eM, rfl, rfl, hpM, heM, hxM, hrM⟩)
  have hx256 := hxM.2.2 rfl
  refine E.OW.pure rfl rfl rfl (E.PV.conv_in Try.underlying26 Try.underlying3 rfl rfl ?_) ?_; (focus (first | exact E.wrap_u8 _ | (simp only [IntKind.wrap_i64, IntKind.wrap_u64, IntKind.wrap_u8]; omega)))
  refine E.OW.pure rfl rfl rfl (E.PV.assign rfl rfl) ?_
  refine E.OW.nil ?_
  refine E.then_n ?_
  refine E.CW.ret ?_
  refine E.KR.one [0] Try.results32 rfl rfl ?_
  exact ⟨xM.toNat, pM, eM, by rw [Int.toNat_of_nonneg hxM.1], rfl, hpM, heM, by omega, Cf.res_n1 hrM⟩

set_option maxRecDepth 100000 in
theorem byr_ok (B : Nat) (A : Option Addr) (c : Nat) (b : List UInt8) (p : Nat) (e : Int) (m : Nat) (S : Nat → Prop) (w0 : World) (hm : m ≤ 100000) (hS : (E.HP.blk B 77 [.slice A b.length c, .int .i64 p, .int .i64 e]).sem S w0) (hb : ∀ k, S k → k < w0.heap.size) (hc8 : b.length ≤ c) (hl : b.length ≤ 100000) (hp : p ≤ b.length) (he : e = 0 ∨ e = 10) (hX : E.Rd w0 (E.Fm w0 S) A (E.u8s b)) :
    Calls Try.prog 33 #[.pointer (some ⟨B, 0, none⟩), .int .i64 m] w0 (E.Post w0 (E.Fm w0 S) fun v Hn => ∃ A2 c2 L p2 e2, v = .slice A2 (List.length L) c2 ∧ Hn = [E.HP.row 5 1 A2 (List.length L) c2 (E.u8s L), E.HP.blk B 77 [.slice A b.length c, .int .i64 (p2 : Nat), .int .i64 e2]] ∧ p2 ≤ b.length ∧ (e2 = 0 ∨ e2 = 10) ∧ L.length ≤ m ∧ Cf.Res (Cf.tk m) (Cf.str b p e) L (Cf.str b p2 e2)) := by
  refine E.calls_of (vs := [.pointer (some ⟨B, 0, none⟩), .int .i64 m]) (H := [E.HP.blk B 77 [.slice A b.length c, .int .i64 p, .int .i64 e]]) Try.func33 Try.ntmps33 rfl rfl (E.HA.startM hS hb) ?_
  refine E.CW.seq ?_
  refine E.CW.region ?_
  refine E.OW.pure rfl rfl rfl (E.PV.assign rfl rfl) ?_
  refine E.OW.nil ?_
  refine E.then_n ?_
  refine E.CW.seq ?_
  refine E.CW.seq ?_
  refine E.CW.region ?_
  refine E.OW.pure rfl rfl rfl (E.PV.move rfl rfl) ?_
  refine E.OW.pure rfl rfl rfl (E.PV.nilCheck rfl rfl) ?_
  refine E.OW.pure rfl rfl rfl (E.PV.fieldAddr fa77_2 rfl rfl) ?_
  refine E.OW.pure rfl rfl rfl (E.PV.load (i := 0) na31 rfl rfl rfl rfl) ?_
  refine E.OW.pure rfl rfl rfl (E.PV.neq rfl rfl rfl) ?_
  refine E.OW.nil ?_
  refine E.then_n ?_
  refine E.CW.cond rfl (fun hc => ?_) (fun hc => ?_)
  · simp only [E.b0, E.b1, E.b2, E.b3, E.b4, E.b5, E.b6, E.b7, E.b8, E.b9, E.b10, E.b11, E.b12, E.b13, E.b14, E.b15, E.b16, E.b17, E.b18, E.b19, E.b20, reduceCtorEq] at hc
    all_goals (
      refine E.CW.seq ?_
      refine E.CW.nilrow 5 1 ?_
      refine E.CW.region ?_
      refine E.OW.pure rfl rfl rfl (E.PV.assign rfl rfl) ?_
      refine E.OW.nil ?_
      refine E.then_n ?_
      refine E.CW.ret ?_
      refine E.then_ret ?_
      refine E.KR.one [0, 0] Try.results33 rfl rfl ?_
      exact ⟨none, 0, [], p, e, rfl, rfl, hp, he, Nat.zero_le _, Cf.res_bad (by omega) (by omega)⟩)
  · simp only [E.b0, E.b1, E.b2, E.b3, E.b4, E.b5, E.b6, E.b7, E.b8, E.b9, E.b10, E.b11, E.b12, E.b13, E.b14, E.b15, E.b16, E.b17, E.b18, E.b19, E.b20, reduceCtorEq] at hc
    all_goals (
      refine E.CW.skip ?_
      refine E.then_n ?_
      refine E.CW.seq ?_
      refine E.CW.drawx mixed [0] rfl ?_
      all_goals (refine E.AW.first 0 rfl (by kernel_rfl) (by kernel_rfl) (by kernel_rfl) rfl rfl rfl (E.PV.move rfl rfl) ?_)
      all_goals (refine E.AW.first 1 rfl (by kernel_rfl) (by kernel_rfl) (by kernel_rfl) rfl rfl rfl (E.PV.nilCheck rfl rfl) ?_)
      all_goals (refine E.AW.first 2 rfl (by kernel_rfl) (by kernel_rfl) (by kernel_rfl) rfl rfl rfl (E.PV.fieldAddr fa77_0 rfl rfl) ?_)
      all_goals (refine E.AW.first 3 rfl (by kernel_rfl) (by kernel_rfl) (by kernel_rfl) rfl rfl rfl (E.PV.load (i := 0) na22 rfl rfl rfl rfl) ?_)
      all_goals (refine E.AW.first 4 rfl (by kernel_rfl) (by kernel_rfl) (by kernel_rfl) rfl rfl rfl (E.PV.move rfl rfl) ?_)
      all_goals (refine E.AW.first 5 rfl (by kernel_rfl) (by kernel_rfl) (by kernel_rfl) rfl rfl rfl (E.PV.nilCheck rfl rfl) ?_)
      all_goals (refine E.AW.first 6 rfl (by kernel_rfl) (by kernel_rfl) (by kernel_rfl) rfl rfl rfl (E.PV.fieldAddr fa77_1 rfl rfl) ?_)
      all_goals (refine E.AW.first 7 rfl (by kernel_rfl) (by kernel_rfl) (by kernel_rfl) rfl rfl rfl (E.PV.load (i := 0) na3 rfl rfl rfl rfl) ?_)
      all_goals (refine E.AW.first 8 rfl (by kernel_rfl) (by kernel_rfl) (by kernel_rfl) rfl rfl rfl (E.PV.move rfl rfl) ?_)
      all_goals (refine E.AW.one 9 (by kernel_rfl) rfl ?_)
      all_goals ((refine E.OW.call nm59 rfl rfl rfl rfl rfl rfl _ (fun w hw => TB_ok _ _ _ p m w ?_ ?_ ?_ ?_ ?_) ?_; (focus (assumption)); (focus (assumption)); (focus (assumption)); (focus (assumption)); (focus (refine hw.rd ?_; assumption)); rintro _ _ ⟨AL, cL, LL, qL, eL, rfl, rfl, hTB⟩))
      all_goals (first | (refine E.AW.nil [0] rfl ?_) | (refine E.AW.nil [1] rfl ?_) | (refine E.AW.nil [2] rfl ?_) | (refine E.AW.nil [3] rfl ?_) | (refine E.AW.nil [4] rfl ?_) | (refine E.AW.nil [5] rfl ?_) | (refine E.AW.nil [6] rfl ?_) | (refine E.AW.nil [0] rfl ?_) | (refine E.AW.nil [0] rfl ?_))
      all_goals (refine E.AW.first 10 rfl (by kernel_rfl) (by kernel_rfl) (by kernel_rfl) rfl rfl rfl (E.PV.move rfl rfl) ?_)
      all_goals (refine E.AW.first 11 rfl (by kernel_rfl) (by kernel_rfl) (by kernel_rfl) rfl rfl rfl (E.PV.extract rfl rfl rfl) ?_)
      all_goals (refine E.AW.first 12 rfl (by kernel_rfl) (by kernel_rfl) (by kernel_rfl) rfl rfl rfl (E.PV.extract rfl rfl rfl) ?_)
      all_goals (refine E.AW.first 13 rfl (by kernel_rfl) (by kernel_rfl) (by kernel_rfl) rfl rfl rfl (E.PV.extract rfl rfl rfl) ?_)
      all_goals (refine E.AW.first 14 rfl (by kernel_rfl) (by kernel_rfl) (by kernel_rfl) rfl rfl rfl (E.PV.assign rfl rfl) ?_)
      all_goals (refine E.AW.first 15 rfl (by kernel_rfl) (by kernel_rfl) (by kernel_rfl) rfl rfl rfl (E.PV.assign rfl rfl) ?_)
      all_goals (refine E.AW.first 16 rfl (by kernel_rfl) (by kernel_rfl) (by kernel_rfl) rfl rfl rfl (E.PV.assign rfl rfl) ?_)
      all_goals (refine E.AW.done (by kernel_rfl) ?_)
      all_goals (
        skip
        refine E.then_n ?_
        refine E.CW.seq ?_
        refine E.CW.seq ?_
        refine E.CW.region ?_
        refine E.OW.pure rfl rfl rfl (E.PV.move rfl rfl) ?_
        refine E.OW.pure rfl rfl rfl (E.PV.neq rfl rfl rfl) ?_
        refine E.OW.nil ?_
        refine E.then_n ?_
        refine E.CW.cond rfl (fun hc => ?_) (fun hc => ?_)
        · simp only [E.b0, E.b1, E.b2, E.b3, E.b4, E.b5, E.b6, E.b7, E.b8, E.b9, E.b10, E.b11, E.b12, E.b13, E.b14, E.b15, E.b16, E.b17, E.b18, E.b19, E.b20, reduceCtorEq] at hc
          all_goals (
            refine E.CW.seq ?_
            obtain ⟨h1, h2, h3⟩ := hTB.resolve_left (fun h => by omega)
            obtain rfl : e = 0 := by omega
            refine E.CW.put 7 (.int .i64 10) rfl (by rw [h3]; rfl) ?_
            refine E.CW.region ?_
            refine E.OW.pure rfl rfl rfl (E.PV.move rfl rfl) ?_
            refine E.OW.pure rfl rfl rfl (E.PV.move rfl rfl) ?_
            refine E.OW.pure rfl rfl rfl (E.PV.nilCheck rfl rfl) ?_
            refine E.OW.pure rfl rfl rfl (E.PV.fieldAddr fa77_2 rfl rfl) ?_
            refine E.OW.store (i := 1) in31.size rfl rfl rfl rfl rfl rfl rfl rfl rfl ?_
            refine E.OW.nil ?_
            refine E.then_n ?_
            refine E.CW.seq ?_
            refine E.CW.nilrow 5 1 ?_
            refine E.CW.region ?_
            refine E.OW.pure rfl rfl rfl (E.PV.assign rfl rfl) ?_
            refine E.OW.nil ?_
            refine E.then_n ?_
            refine E.CW.ret ?_
            refine E.then_ret ?_
            refine E.KR.one [0, 0] Try.results33 rfl rfl ?_
            exact ⟨none, 0, [], p, 10, rfl, rfl, hp, .inr rfl, Nat.zero_le _, Cf.res_tks h1 hp⟩)
        · simp only [E.b0, E.b1, E.b2, E.b3, E.b4, E.b5, E.b6, E.b7, E.b8, E.b9, E.b10, E.b11, E.b12, E.b13, E.b14, E.b15, E.b16, E.b17, E.b18, E.b19, E.b20, reduceCtorEq] at hc
          all_goals (
            refine E.CW.skip ?_
            refine E.then_n ?_
            refine E.CW.seq ?_
            obtain ⟨h1, h2, h3, h4⟩ := hTB.resolve_right (fun h => by omega)
            obtain rfl : e = 0 := by omega
            refine E.CW.put 6 (.int .i64 ((p + m : Nat) : Int)) rfl (by rw [h3]; rfl) ?_
            refine E.CW.region ?_
            refine E.OW.pure rfl rfl rfl (E.PV.move rfl rfl) ?_
            refine E.OW.pure rfl rfl rfl (E.PV.move rfl rfl) ?_
            refine E.OW.pure rfl rfl rfl (E.PV.nilCheck rfl rfl) ?_
            refine E.OW.pure rfl rfl rfl (E.PV.fieldAddr fa77_1 rfl rfl) ?_
            refine E.OW.store (i := 1) in3.size rfl rfl rfl rfl rfl rfl rfl rfl rfl ?_
            refine E.OW.nil ?_
            refine E.then_n ?_
            refine E.CW.seq ?_
            refine E.CW.region ?_
            refine E.OW.pure rfl rfl rfl (E.PV.move rfl rfl) ?_
            refine E.OW.pure rfl rfl rfl (E.PV.assign rfl rfl) ?_
            refine E.OW.nil ?_
            refine E.then_n ?_
            refine E.CW.ret ?_
            refine E.KR.one [1, 0] Try.results33 rfl rfl ?_
            exact ⟨_, _, LL, p + m, 0, rfl, rfl, h1, .inl rfl, by rw [h2, List.length_take]; omega, by rw [h2]; exact Cf.res_tk h1⟩)))

set_option maxRecDepth 100000 in
theorem lsr_ok (B : Nat) (A : Option Addr) (c : Nat) (b : List UInt8) (p : Nat) (e : Int) (S : Nat → Prop) (w0 : World) (hS : (E.HP.blk B 77 [.slice A b.length c, .int .i64 p, .int .i64 e]).sem S w0) (hb : ∀ k, S k → k < w0.heap.size) (hc8 : b.length ≤ c) (hl : b.length ≤ 100000) (hp : p ≤ b.length) (he : e = 0 ∨ e = 10) (hX : E.Rd w0 (E.Fm w0 S) A (E.u8s b)) :
    Calls Try.prog 60 #[.pointer (some ⟨B, 0, none⟩)] w0 (E.Post w0 (E.Fm w0 S) fun v Hn => ∃ A2 c2 L p2 e2, v = .slice A2 (List.length L) c2 ∧ Hn = [E.HP.row 3 1 A2 (List.length L) c2 (E.ints L), E.HP.blk B 77 [.slice A b.length c, .int .i64 (p2 : Nat), .int .i64 e2]] ∧ p2 ≤ b.length ∧ (e2 = 0 ∨ e2 = 10) ∧ (L.length ≤ 255 ∧ ∀ n ∈ L, 0 ≤ n ∧ n < 256) ∧ Cf.Res Cf.ls (Cf.str b p e) L (Cf.str b p2 e2)) := by
  refine E.calls_of (vs := [.pointer (some ⟨B, 0, none⟩)]) (H := [E.HP.blk B 77 [.slice A b.length c, .int .i64 p, .int .i64 e]]) Try.func60 Try.ntmps60 rfl rfl (E.HA.startM hS hb) ?_
  refine E.CW.seq ?_
  refine E.CW.region ?_
  refine E.OW.pure rfl rfl rfl (E.PV.assign rfl rfl) ?_
  refine E.OW.nil ?_
  refine E.then_n ?_
  refine E.CW.seq ?_
  refine E.CW.region ?_
  refine E.OW.pure rfl rfl rfl (E.PV.assign rfl rfl) ?_
  refine E.OW.nil ?_
  refine E.then_n ?_
  refine E.CW.seq ?_
  refine E.CW.seq ?_
  refine E.CW.nilrow 3 1 ?_
  refine E.CW.region ?_
  refine E.OW.pure rfl rfl rfl (E.PV.move rfl rfl) ?_
  refine E.OW.pure rfl rfl rfl (E.PV.move rfl rfl) ?_
  (refine E.OW.callM nm32 rfl rfl rfl rfl rfl rfl _ 1 rfl (fun w S hw hs hb hc => nxt_ok _ _ _ _ _ _ S w hs (fun k hk => (hb k hk).1) ?_ ?_ ?_ ?_ ?_) ?_; (focus (assumption)); (focus (assumption)); (focus (assumption)); (focus (assumption)); (focus (refine hw.rdM ?_ hb; assumption)); rintro _ _ ⟨xN, pN, eN, rfl, rfl, hpN, heN, hxN, hrN⟩)
  (refine E.OW.callM nm33 rfl rfl rfl rfl rfl rfl _ 0 rfl (fun w S hw hs hb hc => byr_ok _ _ _ _ _ _ _ S w ?_ hs (fun k hk => (hb k hk).1) ?_ ?_ ?_ ?_ ?_) ?_; (focus (omega)); (focus (assumption)); (focus (assumption)); (focus (assumption)); (focus (assumption)); (focus (refine hw.rdM ?_ hb; assumption)); rintro _ _ ⟨AB, cB, LB, pB, eB, rfl, rfl, hpB, heB, hLB, hrB⟩)
  refine E.OW.pure rfl rfl rfl (E.PV.len Try.underlying22 rfl rfl) ?_
  refine E.OW.pure rfl rfl rfl (E.PV.move rfl rfl) ?_
  refine E.OW.nil ?_
  refine E.then_n ?_
  refine E.CW.block ?_
  refine E.CW.sels [2, 1, 0] rfl ?_
  refine E.CW.loopk [9, 10] 1 rfl rfl (fun mm mods Hm => ∃ k : Nat, ∃ D : Option Addr, ∃ q : Nat, mm = LB.length - k ∧ mods = [(11, .int .i64 k), (3, .slice D (Cf.is (LB.take k)).length q)] ∧ Hm = [E.HP.row 3 1 D (Cf.is (LB.take k)).length q (E.ints (Cf.is (LB.take k)))] ∧ k ≤ LB.length) (LB.length) ?_ ?_
  · exact ⟨[(11, _), (3, _)], (by repeat (first | exact E.cov_nil | refine ⟨rfl, ?_⟩)), 0, none, 0, rfl, rfl, rfl, by omega⟩
  · rintro _ _ _ ⟨k, D, q, rfl, rfl, rfl, hk⟩
    have hil : (Cf.is (LB.take k)).length = k := by simp [Cf.is]; omega
    refine E.CW.seq ?_
    refine E.CW.region ?_
    refine E.OW.pure rfl rfl rfl (E.PV.lss rfl rfl rfl) ?_
    refine E.OW.nil ?_
    refine E.then_n ?_
    refine E.CW.seq ?_
    refine E.CW.cond rfl (fun hc => ?_) (fun hc => ?_)
    · simp only [E.b0, E.b1, E.b2, E.b3, E.b4, E.b5, E.b6, E.b7, E.b8, E.b9, E.b10, E.b11, E.b12, E.b13, E.b14, E.b15, E.b16, E.b17, E.b18, E.b19, E.b20, reduceCtorEq] at hc
      all_goals (
        refine E.CW.skip ?_
        refine E.then_n ?_
        refine E.CW.seq ?_
        refine E.CW.block ?_
        refine E.CW.seq ?_
        refine E.CW.region ?_
        refine E.OW.pure rfl rfl rfl (E.PV.indexAddr1 (E.rdr (i := 2) rfl) Try.underlying22 in5 rfl rfl rfl rfl ?_ ?_) ?_; (focus (first | (simp; done) | (simp; omega))); (focus (omega))
        refine E.OW.pure rfl rfl rfl (E.PV.load_u8 (E.rdr (i := 2) rfl) na5 rfl rfl ?_) ?_; (focus (omega))
        refine E.OW.pure rfl rfl rfl (E.PV.assign rfl rfl) ?_
        refine E.OW.nil ?_
        refine E.then_n ?_
        refine E.CW.region ?_
        refine E.OW.pure rfl rfl rfl (E.PV.move rfl rfl) ?_
        refine E.OW.pure rfl rfl rfl (E.PV.move rfl rfl) ?_
        refine E.OW.pure rfl rfl rfl (E.PV.conv_in Try.underlying5 Try.underlying3 rfl rfl ?_) ?_; (focus (first | exact E.wrap_u8 _ | (simp only [IntKind.wrap_i64, IntKind.wrap_u64, IntKind.wrap_u8]; omega)))
        refine E.OW.buildSlice (Et := 3) (sz := 1) (ps := [(0, .tmp 17)]) rfl rfl rfl rfl rfl (by simp) (by unfold maxLen; omega) (fun w => bsl50_1_0 _ w) (fun A1 => ?_)
        refine E.OW.app_int1 (j := 0) (i := 0) Try.underlying50 in3 rfl rfl rfl rfl rfl rfl rfl rfl rfl rfl ?_ (fun A2 c2 => ?_); (focus ((first | omega | (simp only [List.length_append, List.length_cons, List.length_nil] at *; omega) | (unfold maxLen at *; omega))))
        refine E.OW.pure rfl rfl rfl (E.PV.assign rfl rfl) ?_
        refine E.OW.nil ?_
        refine E.blk_n ?_
        refine E.then_n ?_
        refine E.CW.region ?_
        refine E.OW.pure rfl rfl rfl (E.PV.add_i64 rfl rfl rfl ?_) ?_; (focus (omega))
        refine E.OW.pure rfl rfl rfl (E.PV.move rfl rfl) ?_
        refine E.OW.nil ?_
        refine E.then_nf ?_
        refine ⟨_, [(11, _), (3, _)], [0, 0, 0], _, ?_, by repeat (first | exact E.cov_nil | refine ⟨rfl, ?_⟩), rfl, k + 1, _, _, rfl, by rw [Cf.is_take (show k < LB.length by omega)]; rfl, by rw [Cf.is_take (show k < LB.length by omega)], by omega⟩
        omega)
    · simp only [E.b0, E.b1, E.b2, E.b3, E.b4, E.b5, E.b6, E.b7, E.b8, E.b9, E.b10, E.b11, E.b12, E.b13, E.b14, E.b15, E.b16, E.b17, E.b18, E.b19, E.b20, reduceCtorEq] at hc
      all_goals (
        refine E.CW.exit ?_
        refine E.then_x ?_
        refine E.then_x ?_
        refine E.blk_eq ?_
        refine E.then_n ?_
        refine E.CW.seq ?_
        refine E.CW.region ?_
        refine E.OW.pure rfl rfl rfl (E.PV.move rfl rfl) ?_
        refine E.OW.pure rfl rfl rfl (E.PV.assign rfl rfl) ?_
        refine E.OW.nil ?_
        refine E.then_n ?_
        refine E.CW.ret ?_
        refine E.KR.one [0, 0] Try.results60 rfl rfl ?_
        obtain rfl : k = LB.length := by omega
        rw [List.take_length]
        exact ⟨_, _, _, _, _, rfl, rfl, hpB, heB, ⟨by simp [Cf.is]; omega, Cf.is_b⟩, Cf.res_ls hrN hrB⟩)
end Go.Proofs.Yteibcphdbkgcgaa
