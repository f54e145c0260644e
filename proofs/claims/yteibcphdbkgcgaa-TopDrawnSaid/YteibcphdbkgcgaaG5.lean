/- Walks (printed by gen.py). -/
import Derived.Test.YteibcphdbkgcgaaG4
import Derived.Test.YteibcphdbkgcgaaWr
namespace Go.Proofs.Yteibcphdbkgcgaa
open Go Go.RowKit
set_option linter.unusedSimpArgs false
set_option linter.unusedVariables false

set_option maxRecDepth 100000 in
theorem put_ok (B : Nat) (bs : List UInt8) (n : Int) (S : Nat → Prop) (w0 : World) (hS : (E.HP.wrt B bs).sem S w0) (hb : ∀ k, S k → k < w0.heap.size) (hz : bs.length ≤ 100000) :
    Calls Try.prog 28 #[.pointer (some ⟨B, 0, none⟩), .int .i64 n] w0 (E.Post w0 (E.Fm w0 S) fun v Hn => Hn = [E.HP.wrt B (bs ++ [Cf.byt n])]) := by
  refine E.calls_of (vs := [.pointer (some ⟨B, 0, none⟩), .int .i64 n]) (H := [E.HP.wrt B bs]) Try.func28 Try.ntmps28 rfl rfl (E.HA.startM hS hb) ?_
  refine E.CW.wrtout 0 rfl (fun AW cW => ?_)
  refine E.CW.region ?_
  refine E.OW.pure rfl rfl rfl (E.PV.move rfl rfl) ?_
  refine E.OW.pure rfl rfl rfl (E.PV.move rfl rfl) ?_
  refine E.OW.pure rfl rfl rfl (E.PV.nilCheck rfl rfl) ?_
  refine E.OW.pure rfl rfl rfl (E.PV.fieldAddr fa69_0 rfl rfl) ?_
  refine E.OW.pure rfl rfl rfl (E.PV.load (i := 0) na22 rfl rfl rfl rfl) ?_
  refine E.OW.pure rfl rfl rfl (E.PV.move rfl rfl) ?_
  refine E.OW.pure rfl rfl rfl (E.PV.conv Try.underlying3 Try.underlying5 rfl rfl) ?_
  refine E.OW.buildSlice (Et := 5) (sz := 1) (ps := [(0, .tmp 10)]) rfl rfl rfl rfl rfl (by simp) (by unfold maxLen; omega) (fun w => bsl22_1_0 _ w) (fun A1 => ?_)
  refine E.OW.app_u81 (j := 0) (i := 1) (Cf.byt n) ?_ Try.underlying22 in5 rfl rfl rfl rfl rfl rfl rfl rfl rfl rfl ?_ (fun A2 c2 => ?_); (focus (exact Cf.byt_wrap _)); (focus ((first | omega | (simp only [List.length_append, List.length_cons, List.length_nil] at *; omega) | (unfold maxLen at *; omega))))
  refine E.OW.pure rfl rfl rfl (E.PV.nilCheck rfl rfl) ?_
  refine E.OW.pure rfl rfl rfl (E.PV.fieldAddr fa69_0 rfl rfl) ?_
  refine E.OW.store (i := 1) in22.size rfl rfl rfl rfl rfl rfl rfl rfl rfl ?_
  refine E.OW.wrtin 0 0 rfl rfl ?_
  refine E.OW.nil ?_
  refine (E.KR.zero [0] Try.results28 rfl ?_).1
  exact rfl

set_option maxRecDepth 100000 in
theorem lst_ok (B : Nat) (bs : List UInt8) (A : Option Addr) (c : Nat) (l : List Int) (S : Nat → Prop) (w0 : World) (hS : (E.HP.wrt B bs).sem S w0) (hb : ∀ k, S k → k < w0.heap.size) (hz : bs.length + l.length ≤ 90000) (hX : E.Rd w0 (E.Fm w0 S) A (E.ints l)) :
    Calls Try.prog 56 #[.pointer (some ⟨B, 0, none⟩), .slice A l.length c] w0 (E.Post w0 (E.Fm w0 S) fun v Hn => Hn = [E.HP.wrt B (bs ++ Cf.encL l)]) := by
  refine E.calls_of (vs := [.pointer (some ⟨B, 0, none⟩), .slice A l.length c]) (H := [E.HP.wrt B bs]) Try.func56 Try.ntmps56 rfl rfl (E.HA.startM hS hb) ?_
  refine E.CW.seq ?_
  refine E.CW.region ?_
  refine E.OW.pure rfl rfl rfl (E.PV.move rfl rfl) ?_
  refine E.OW.pure rfl rfl rfl (E.PV.move rfl rfl) ?_
  refine E.OW.pure rfl rfl rfl (E.PV.len Try.underlying50 rfl rfl) ?_
  (refine E.OW.callM nm28 rfl rfl rfl rfl rfl rfl _ 0 rfl (fun w S hw hs hb hc => put_ok _ _ _ S w hs (fun k hk => (hb k hk).1) ?_) ?_; (focus (omega)); rintro _ _ rfl)
  refine E.OW.nil ?_
  refine E.then_n ?_
  refine E.CW.seq ?_
  refine E.CW.region ?_
  refine E.OW.pure rfl rfl rfl (E.PV.move rfl rfl) ?_
  refine E.OW.pure rfl rfl rfl (E.PV.len Try.underlying50 rfl rfl) ?_
  refine E.OW.pure rfl rfl rfl (E.PV.move rfl rfl) ?_
  refine E.OW.nil ?_
  refine E.then_n ?_
  refine E.CW.block ?_
  refine E.CW.loopk [0, 10, 11] 1 rfl rfl (fun mm mods Hm => ∃ k : Nat, mm = l.length - k ∧ mods = [(12, .int .i64 k)] ∧ Hm = [E.HP.wrt B (bs ++ [Cf.byt l.length] ++ (l.take k).map Cf.byt)] ∧ k ≤ l.length) (l.length) ?_ ?_
  · exact ⟨[(12, _)], (by repeat (first | exact E.cov_nil | refine ⟨rfl, ?_⟩)), 0, rfl, rfl, by simp, by omega⟩
  · rintro _ _ _ ⟨k, rfl, rfl, rfl, hk⟩
    have hlk : (bs ++ [Cf.byt l.length] ++ (l.take k).map Cf.byt).length ≤ 100000 := by simp; omega
    refine E.CW.seq ?_
    refine E.CW.region ?_
    refine E.OW.pure rfl rfl rfl (E.PV.lss rfl rfl rfl) ?_
    refine E.OW.nil ?_
    refine E.then_n ?_
    refine E.CW.seq ?_
    refine E.CW.cond rfl (fun hc => ?_) (fun hc => ?_)
    · simp only [E.b0, E.b1, E.b2, E.b3, E.b4, E.b5, E.b6, E.b7, E.b8, E.b9, E.b10, E.b11, E.b12, E.b13, E.b14, E.b15, E.b16, E.b17, E.b18, E.b19, E.b20, reduceCtorEq] at hc
      all_goals (
        refine E.CW.skip ?_
        refine E.then_n ?_
        refine E.CW.seq ?_
        refine E.CW.block ?_
        refine E.CW.seq ?_
        refine E.CW.region ?_
        refine E.OW.pure rfl rfl rfl (E.PV.indexAddr1 (E.rdc hX) Try.underlying50 in3 rfl rfl rfl rfl ?_ ?_) ?_; (focus (first | (simp; done) | (simp; omega))); (focus (omega))
        refine E.OW.pure rfl rfl rfl (E.PV.load_int (E.rdc hX) na3 rfl rfl ?_) ?_; (focus (omega))
        refine E.OW.pure rfl rfl rfl (E.PV.assign rfl rfl) ?_
        refine E.OW.nil ?_
        refine E.then_n ?_
        refine E.CW.region ?_
        refine E.OW.pure rfl rfl rfl (E.PV.move rfl rfl) ?_
        refine E.OW.pure rfl rfl rfl (E.PV.move rfl rfl) ?_
        (refine E.OW.callM nm28 rfl rfl rfl rfl rfl rfl _ 0 rfl (fun w S hw hs hb hc => put_ok _ _ _ S w hs (fun k hk => (hb k hk).1) ?_) ?_; (focus (assumption)); rintro _ _ rfl)
        refine E.OW.nil ?_
        refine E.blk_n ?_
        refine E.then_n ?_
        refine E.CW.region ?_
        refine E.OW.pure rfl rfl rfl (E.PV.add_i64 rfl rfl rfl ?_) ?_; (focus (omega))
        refine E.OW.pure rfl rfl rfl (E.PV.move rfl rfl) ?_
        refine E.OW.nil ?_
        refine E.then_nf ?_
        refine ⟨_, [(12, _)], [0], _, ?_, by repeat (first | exact E.cov_nil | refine ⟨rfl, ?_⟩), rfl, k + 1, rfl, rfl, by rw [← Cf.map_succ' (show k < l.length by omega) rfl, ← List.append_assoc], by omega⟩
        omega)
    · simp only [E.b0, E.b1, E.b2, E.b3, E.b4, E.b5, E.b6, E.b7, E.b8, E.b9, E.b10, E.b11, E.b12, E.b13, E.b14, E.b15, E.b16, E.b17, E.b18, E.b19, E.b20, reduceCtorEq] at hc
      all_goals (
        refine E.CW.exit ?_
        refine E.then_x ?_
        refine E.then_x ?_
        refine E.blk_eq ?_
        refine (E.KR.zero [0] Try.results56 rfl ?_).1
        obtain rfl : k = l.length := by omega
        simp [Cf.encL])

set_option maxRecDepth 100000 in
theorem wtm_ok (B : Nat) (bs : List UInt8) (m : E.Tm) (S : Nat → Prop) (w0 : World) (hS : (E.HP.wrt B bs).sem S w0) (hb : ∀ k, S k → k < w0.heap.size) (hz : bs.length ≤ 10000) (hsm : Cf.small m.q) (hm : m.rd w0 (E.Fm w0 S)) :
    Calls Try.prog 29 #[.pointer (some ⟨B, 0, none⟩), m.v] w0 (E.Post w0 (E.Fm w0 S) fun v Hn => Hn = [E.HP.wrt B (bs ++ Cf.encT m.q)]) := by
  obtain ⟨hX, hY, hZ⟩ := hm
  have h5 : (Cf.nums m.q).length = 5 := rfl
  obtain ⟨hs1, hs2, hs3⟩ := hsm
  have hl1 : (Cf.encL m.q.h).length = m.q.h.length + 1 := by simp [Cf.encL]
  have hl2 : (Cf.encL m.q.p).length = m.q.p.length + 1 := by simp [Cf.encL]
  have hl3 : (Cf.encL m.q.d).length = m.q.d.length + 1 := by simp [Cf.encL]
  refine E.calls_of (vs := [.pointer (some ⟨B, 0, none⟩), m.v]) (H := [E.HP.wrt B bs]) Try.func29 Try.ntmps29 rfl rfl (E.HA.startM hS hb) ?_
  refine E.CW.seq ?_
  refine E.CW.region ?_
  refine E.OW.box rfl rfl rfl rfl rfl rfl (fun B1 => ?_)
  refine E.OW.nil ?_
  refine E.then_n ?_
  refine E.CW.seq ?_
  refine E.CW.region ?_
  refine E.OW.pure rfl rfl rfl (E.PV.move rfl rfl) ?_
  refine E.OW.pure rfl rfl rfl (E.PV.fieldAddr fa52_0 rfl rfl) ?_
  refine E.OW.pure rfl rfl rfl (E.PV.load (i := 0) na50 rfl rfl rfl rfl) ?_
  (refine E.OW.callM nm56 rfl rfl rfl rfl rfl rfl _ 1 rfl (fun w S hw hs hb hc => lst_ok _ _ _ _ _ S w hs (fun k hk => (hb k hk).1) (by (try simp only [List.length_append]); omega) ?_) ?_; (focus (refine hw.rdM ?_ hb; assumption)); rintro _ _ rfl)
  refine E.OW.nil ?_
  refine E.then_n ?_
  refine E.CW.seq ?_
  refine E.CW.seq ?_
  refine E.CW.region ?_
  refine E.OW.pure rfl rfl rfl (E.PV.fieldAddr fa52_0 rfl rfl) ?_
  refine E.OW.pure rfl rfl rfl (E.PV.load (i := 1) na50 rfl rfl rfl rfl) ?_
  refine E.OW.pure rfl rfl rfl (E.PV.len Try.underlying50 rfl rfl) ?_
  refine E.OW.pure rfl rfl rfl (E.PV.eql rfl rfl rfl) ?_
  refine E.OW.nil ?_
  refine E.then_n ?_
  refine E.CW.cond rfl (fun hc => ?_) (fun hc => ?_)
  · simp only [E.b0, E.b1, E.b2, E.b3, E.b4, E.b5, E.b6, E.b7, E.b8, E.b9, E.b10, E.b11, E.b12, E.b13, E.b14, E.b15, E.b16, E.b17, E.b18, E.b19, E.b20, reduceCtorEq] at hc
    all_goals (
      refine E.CW.ret ?_
      refine E.then_ret ?_
      refine (E.KR.zero [0] Try.results29 rfl ?_).2
      have h0 : m.q.h.length = 0 := by omega
      simp [Cf.encT, h0])
  · simp only [E.b0, E.b1, E.b2, E.b3, E.b4, E.b5, E.b6, E.b7, E.b8, E.b9, E.b10, E.b11, E.b12, E.b13, E.b14, E.b15, E.b16, E.b17, E.b18, E.b19, E.b20, reduceCtorEq] at hc
    all_goals (
      refine E.CW.skip ?_
      refine E.then_n ?_
      refine E.CW.seq ?_
      refine E.CW.region ?_
      refine E.OW.pure rfl rfl rfl (E.PV.move rfl rfl) ?_
      refine E.OW.pure rfl rfl rfl (E.PV.fieldAddr fa52_1 rfl rfl) ?_
      refine E.OW.pure rfl rfl rfl (E.PV.load (i := 1) na50 rfl rfl rfl rfl) ?_
      (refine E.OW.callM nm56 rfl rfl rfl rfl rfl rfl _ 0 rfl (fun w S hw hs hb hc => lst_ok _ _ _ _ _ S w hs (fun k hk => (hb k hk).1) (by (try simp only [List.length_append]); omega) ?_) ?_; (focus (refine hw.rdM ?_ hb; assumption)); rintro _ _ rfl)
      refine E.OW.nil ?_
      refine E.then_n ?_
      refine E.CW.seq ?_
      refine E.CW.region ?_
      refine E.OW.pure rfl rfl rfl (E.PV.move rfl rfl) ?_
      refine E.OW.pure rfl rfl rfl (E.PV.fieldAddr fa52_2 rfl rfl) ?_
      refine E.OW.pure rfl rfl rfl (E.PV.load (i := 1) na50 rfl rfl rfl rfl) ?_
      (refine E.OW.callM nm56 rfl rfl rfl rfl rfl rfl _ 0 rfl (fun w S hw hs hb hc => lst_ok _ _ _ _ _ S w hs (fun k hk => (hb k hk).1) (by (try simp only [List.length_append]); omega) ?_) ?_; (focus (refine hw.rdM ?_ hb; assumption)); rintro _ _ rfl)
      refine E.OW.nil ?_
      refine E.then_n ?_
      refine E.CW.seq ?_
      refine E.CW.region ?_
      refine E.OW.pure rfl rfl rfl (E.PV.fieldAddr fa52_3 rfl rfl) ?_
      refine E.OW.pure rfl rfl rfl (E.PV.load (i := 1) na3 rfl rfl rfl rfl) ?_
      refine E.OW.pure rfl rfl rfl (E.PV.fieldAddr fa52_4 rfl rfl) ?_
      refine E.OW.pure rfl rfl rfl (E.PV.load (i := 1) na3 rfl rfl rfl rfl) ?_
      refine E.OW.pure rfl rfl rfl (E.PV.fieldAddr fa52_5 rfl rfl) ?_
      refine E.OW.pure rfl rfl rfl (E.PV.load (i := 1) na3 rfl rfl rfl rfl) ?_
      refine E.OW.pure rfl rfl rfl (E.PV.fieldAddr fa52_6 rfl rfl) ?_
      refine E.OW.pure rfl rfl rfl (E.PV.load (i := 1) na3 rfl rfl rfl rfl) ?_
      refine E.OW.pure rfl rfl rfl (E.PV.fieldAddr fa52_7 rfl rfl) ?_
      refine E.OW.pure rfl rfl rfl (E.PV.load (i := 1) na3 rfl rfl rfl rfl) ?_
      refine E.OW.buildSlice (Et := 3) (sz := 1) (cs := E.ints (Cf.nums m.q)) (ps := [(0, .tmp 23), (1, .tmp 25), (2, .tmp 27), (3, .tmp 29), (4, .tmp 31)]) rfl rfl rfl rfl rfl rfl (by unfold maxLen; omega) (fun w => bsl50_5_0_1_2_3_4 _ _ _ _ _ w) (fun AL => ?_)
      refine E.OW.pure rfl rfl rfl (E.PV.len Try.underlying50 rfl rfl) ?_
      refine E.OW.pure rfl rfl rfl (E.PV.move rfl rfl) ?_
      refine E.OW.nil ?_
      refine E.then_n ?_
      refine E.CW.block ?_
      refine E.CW.sels [1, 0, 0] rfl ?_
      refine E.CW.loopk [0, 32, 33] 1 rfl rfl (fun mm mods Hm => ∃ k : Nat, mm = 5 - k ∧ mods = [(34, .int .i64 k)] ∧ Hm = [E.HP.wrt B (bs ++ Cf.encL m.q.h ++ Cf.encL m.q.p ++ Cf.encL m.q.d ++ ((Cf.nums m.q).take k).map Cf.byt)] ∧ k ≤ 5) (5) ?_ ?_
      · exact ⟨[(34, _)], (by repeat (first | exact E.cov_nil | refine ⟨rfl, ?_⟩)), 0, rfl, rfl, by simp, by omega⟩
      · rintro _ _ _ ⟨k, rfl, rfl, rfl, hk⟩
        have hlk : (bs ++ Cf.encL m.q.h ++ Cf.encL m.q.p ++ Cf.encL m.q.d ++ ((Cf.nums m.q).take k).map Cf.byt).length ≤ 100000 := by simp; omega
        refine E.CW.seq ?_
        refine E.CW.region ?_
        refine E.OW.pure rfl rfl rfl (E.PV.lss rfl rfl rfl) ?_
        refine E.OW.nil ?_
        refine E.then_n ?_
        refine E.CW.seq ?_
        refine E.CW.cond rfl (fun hc => ?_) (fun hc => ?_)
        · simp only [E.b0, E.b1, E.b2, E.b3, E.b4, E.b5, E.b6, E.b7, E.b8, E.b9, E.b10, E.b11, E.b12, E.b13, E.b14, E.b15, E.b16, E.b17, E.b18, E.b19, E.b20, reduceCtorEq] at hc
          all_goals (
            refine E.CW.skip ?_
            refine E.then_n ?_
            refine E.CW.seq ?_
            refine E.CW.block ?_
            refine E.CW.seq ?_
            refine E.CW.region ?_
            refine E.OW.pure rfl rfl rfl (E.PV.indexAddr1 (E.rdr (i := 1) rfl) Try.underlying50 in3 rfl rfl rfl rfl ?_ ?_) ?_; (focus (first | (simp; done) | (simp; omega))); (focus (omega))
            refine E.OW.pure rfl rfl rfl (E.PV.load_int (E.rdr (i := 1) rfl) na3 rfl rfl ?_) ?_; (focus (omega))
            refine E.OW.pure rfl rfl rfl (E.PV.assign rfl rfl) ?_
            refine E.OW.nil ?_
            refine E.then_n ?_
            refine E.CW.region ?_
            refine E.OW.pure rfl rfl rfl (E.PV.move rfl rfl) ?_
            refine E.OW.pure rfl rfl rfl (E.PV.move rfl rfl) ?_
            (refine E.OW.callM nm28 rfl rfl rfl rfl rfl rfl _ 0 rfl (fun w S hw hs hb hc => put_ok _ _ _ S w hs (fun k hk => (hb k hk).1) (by assumption)) ?_; rintro _ _ rfl)
            refine E.OW.nil ?_
            refine E.blk_n ?_
            refine E.then_n ?_
            refine E.CW.region ?_
            refine E.OW.pure rfl rfl rfl (E.PV.add_i64 rfl rfl rfl ?_) ?_; (focus (omega))
            refine E.OW.pure rfl rfl rfl (E.PV.move rfl rfl) ?_
            refine E.OW.nil ?_
            refine E.then_nf ?_
            refine ⟨_, [(34, _)], [0, 0, 0], _, ?_, by repeat (first | exact E.cov_nil | refine ⟨rfl, ?_⟩), rfl, k + 1, rfl, rfl, by rw [← Cf.map_succ' (show k < (Cf.nums m.q).length by omega) rfl, ← List.append_assoc], by omega⟩
            omega)
        · simp only [E.b0, E.b1, E.b2, E.b3, E.b4, E.b5, E.b6, E.b7, E.b8, E.b9, E.b10, E.b11, E.b12, E.b13, E.b14, E.b15, E.b16, E.b17, E.b18, E.b19, E.b20, reduceCtorEq] at hc
          all_goals (
            refine E.CW.exit ?_
            refine E.then_x ?_
            refine E.then_x ?_
            refine E.blk_eq ?_
            refine (E.KR.zero [0] Try.results29 rfl ?_).1
            have h0 : ¬ m.q.h.length = 0 := by omega
            obtain rfl : k = 5 := by omega
            rw [show ((Cf.nums m.q).take 5) = (Cf.nums m.q) from rfl]
            simp only [Cf.encT, if_neg h0, List.append_assoc]))

set_option maxRecDepth 100000 in
theorem dput_ok (A : Option Addr) (c : Nat) (bs : List UInt8) (n : Int) (S : Nat → Prop) (w0 : World) (hS : (E.HP.row 5 1 A bs.length c (E.u8s bs)).sem S w0) (hb : ∀ k, S k → k < w0.heap.size) (hz : bs.length ≤ 100000) (hn : 0 ≤ n ∧ n < 18446744073709551616) :
    Calls Try.prog 57 #[.slice A bs.length c, .int .u64 n, .int .i64 8] w0 (E.Post w0 (E.Fm w0 S) fun v Hn => ∃ A2 c2, v = .slice A2 (bs ++ Cf.be n 8).length c2 ∧ Hn = [E.HP.row 5 1 A2 (bs ++ Cf.be n 8).length c2 (E.u8s (bs ++ Cf.be n 8))]) := by
  refine E.calls_of (vs := [.slice A bs.length c, .int .u64 n, .int .i64 8]) (H := [E.HP.row 5 1 A bs.length c (E.u8s bs)]) Try.func57 Try.ntmps57 rfl rfl (E.HA.startM hS hb) ?_
  refine E.CW.seq ?_
  refine E.CW.region ?_
  refine E.OW.pure rfl rfl rfl (E.PV.assign rfl rfl) ?_
  refine E.OW.nil ?_
  refine E.then_n ?_
  refine E.CW.seq ?_
  refine E.CW.seq ?_
  refine E.CW.region ?_
  refine E.OW.pure rfl rfl rfl (E.PV.move rfl rfl) ?_
  refine E.OW.pure rfl rfl rfl (E.PV.sub_i64 rfl rfl rfl ?_) ?_; (focus (omega))
  refine E.OW.pure rfl rfl rfl (E.PV.assign rfl rfl) ?_
  refine E.OW.nil ?_
  refine E.then_n ?_
  refine E.CW.block ?_
  refine E.CW.loopk [1] 1 rfl rfl (fun mm mods Hm => ∃ k : Nat, ∃ D : Option Addr, ∃ e : Nat, mm = 8 - k ∧ mods = [(7, .int .i64 (7 - (k : Int))), (0, .slice D (bs ++ Cf.be n k).length e)] ∧ Hm = [E.HP.row 5 1 D (bs ++ Cf.be n k).length e (E.u8s (bs ++ Cf.be n k))] ∧ k ≤ 8) (8) ?_ ?_
  · exact ⟨[(7, _), (0, _)], (by repeat (first | exact E.cov_nil | refine ⟨rfl, ?_⟩)), 0, A, c, rfl, by simp [Cf.be], by simp [Cf.be], by omega⟩
  · rintro _ _ _ ⟨k, D, e, rfl, rfl, rfl, hk⟩
    have hbl : (bs ++ Cf.be n k).length = bs.length + k := by simp [Cf.be]
    refine E.CW.seq ?_
    refine E.CW.seq ?_
    refine E.CW.region ?_
    refine E.OW.pure rfl rfl rfl (E.PV.move rfl rfl) ?_
    refine E.OW.pure rfl rfl rfl (E.PV.geq rfl rfl rfl) ?_
    refine E.OW.nil ?_
    refine E.then_n ?_
    refine E.CW.cond rfl (fun hc => ?_) (fun hc => ?_)
    · simp only [E.b0, E.b1, E.b2, E.b3, E.b4, E.b5, E.b6, E.b7, E.b8, E.b9, E.b10, E.b11, E.b12, E.b13, E.b14, E.b15, E.b16, E.b17, E.b18, E.b19, E.b20, reduceCtorEq] at hc
      all_goals (
        refine E.CW.skip ?_
        refine E.then_n ?_
        refine E.CW.seq ?_
        refine E.CW.block ?_
        refine E.CW.region ?_
        refine E.OW.pure rfl rfl rfl (E.PV.move rfl rfl) ?_
        refine E.OW.pure rfl rfl rfl (E.PV.move rfl rfl) ?_
        refine E.OW.pure rfl rfl rfl (E.PV.move rfl rfl) ?_
        refine E.OW.pure rfl rfl rfl (E.PV.mul_i64 rfl rfl rfl ?_) ?_; (focus (omega))
        refine E.OW.pure rfl rfl rfl (E.PV.shr rfl rfl rfl ?_) ?_; (focus (omega))
        refine E.OW.pure rfl rfl rfl (E.PV.conv Try.underlying26 Try.underlying5 rfl rfl) ?_
        refine E.OW.buildSlice (Et := 5) (sz := 1) (ps := [(0, .tmp 19)]) rfl rfl rfl rfl rfl (by simp) (by unfold maxLen; omega) (fun w => bsl22_1_0 _ w) (fun A1 => ?_)
        refine E.OW.app_u81 (j := 0) (i := 0) (Cf.byt (n / 256 ^ (7 - k))) ?_ Try.underlying22 in5 rfl rfl rfl rfl rfl rfl rfl rfl rfl rfl ?_ (fun A2 c2 => ?_); (focus (exact Cf.shr_byt n (by omega))); (focus ((first | omega | (simp only [List.length_append, List.length_cons, List.length_nil] at *; omega) | (unfold maxLen at *; omega))))
        refine E.OW.pure rfl rfl rfl (E.PV.assign rfl rfl) ?_
        refine E.OW.nil ?_
        refine E.blk_n ?_
        refine E.then_n ?_
        refine E.CW.region ?_
        refine E.OW.pure rfl rfl rfl (E.PV.move rfl rfl) ?_
        refine E.OW.pure rfl rfl rfl (E.PV.sub_i64 rfl rfl rfl ?_) ?_; (focus (omega))
        refine E.OW.pure rfl rfl rfl (E.PV.assign rfl rfl) ?_
        refine E.OW.nil ?_
        refine E.then_nf ?_
        refine ⟨_, [(7, _), (0, _)], [0], _, ?_, by repeat (first | exact E.cov_nil | refine ⟨rfl, ?_⟩), rfl, k + 1, _, _, rfl, by rw [Cf.be_succ, ← List.append_assoc, Int.natCast_succ, Int.sub_sub], by rw [Cf.be_succ, ← List.append_assoc], by omega⟩
        omega)
    · simp only [E.b0, E.b1, E.b2, E.b3, E.b4, E.b5, E.b6, E.b7, E.b8, E.b9, E.b10, E.b11, E.b12, E.b13, E.b14, E.b15, E.b16, E.b17, E.b18, E.b19, E.b20, reduceCtorEq] at hc
      all_goals (
        refine E.CW.exit ?_
        refine E.then_x ?_
        refine E.then_x ?_
        refine E.blk_eq ?_
        refine E.then_n ?_
        refine E.CW.seq ?_
        refine E.CW.region ?_
        refine E.OW.pure rfl rfl rfl (E.PV.move rfl rfl) ?_
        refine E.OW.pure rfl rfl rfl (E.PV.assign rfl rfl) ?_
        refine E.OW.nil ?_
        refine E.then_n ?_
        refine E.CW.ret ?_
        refine E.KR.one [0] Try.results57 rfl rfl ?_
        obtain rfl : k = 8 := by omega
        exact ⟨_, _, rfl, rfl⟩)

set_option maxRecDepth 100000 in
theorem PU_ok (A : Option Addr) (c : Nat) (bs : List UInt8) (n : Int) (w0 : World) (hz : bs.length ≤ 8000) (hn : 0 ≤ n ∧ n < 18446744073709551616) (hX : E.Rd w0 (E.Old w0) A (E.u8s bs)) :
    Calls Try.prog 30 #[.slice A bs.length c, .int .u64 n, .int .i64 8] w0 (E.Post w0 (E.Old w0) fun v Hn => ∃ A2 c2, v = .tuple #[.slice A2 (bs ++ Cf.be n 8).length c2, .int .i64 0] ∧ Hn = [E.HP.row 5 1 A2 (bs ++ Cf.be n 8).length c2 (E.u8s (bs ++ Cf.be n 8))]) := by
  refine E.calls_of (vs := [.slice A bs.length c, .int .u64 n, .int .i64 8]) (H := []) Try.func30 Try.ntmps30 rfl rfl (E.HA.start w0) ?_
  refine E.CW.seq ?_
  refine E.CW.region ?_
  refine E.OW.pure rfl rfl rfl (E.PV.assign rfl rfl) ?_
  refine E.OW.pure rfl rfl rfl (E.PV.assign rfl rfl) ?_
  refine E.OW.nil ?_
  refine E.then_n ?_
  refine E.CW.seq ?_
  refine E.CW.seq ?_
  refine E.CW.region ?_
  refine E.OW.pure rfl rfl rfl (E.PV.move rfl rfl) ?_
  refine E.OW.pure rfl rfl rfl (E.PV.lss rfl rfl rfl) ?_
  refine E.OW.pure rfl rfl rfl (E.PV.move rfl rfl) ?_
  all_goals (refine E.OW.put 10 (.bool false) (v := .bool false) rfl rfl ?_)
  all_goals (refine E.OW.pure rfl rfl rfl (E.PV.move rfl rfl) ?_)
  all_goals (refine E.OW.pure rfl rfl rfl (E.PV.gtr rfl rfl rfl) ?_)
  all_goals (refine E.OW.pure rfl rfl rfl (E.PV.pick_f rfl rfl rfl) ?_)
  all_goals (refine E.OW.pure rfl rfl rfl (E.PV.move rfl rfl) ?_)
  all_goals (refine E.OW.put 14 (.bool false) (v := .bool false) rfl rfl ?_)
  all_goals (refine E.OW.pure rfl rfl rfl (E.PV.move rfl rfl) ?_)
  all_goals (refine E.OW.pure rfl rfl rfl (E.PV.lss rfl rfl rfl) ?_)
  all_goals (refine E.OW.pure rfl rfl rfl (E.PV.move rfl rfl) ?_)
  all_goals (refine E.OW.put 17 (.bool false) (v := .bool false) rfl rfl ?_)
  all_goals (refine E.OW.off rfl rfl rfl ?_)
  all_goals (refine E.OW.off rfl rfl rfl ?_)
  all_goals (refine E.OW.off rfl rfl rfl ?_)
  all_goals (refine E.OW.off rfl rfl rfl ?_)
  all_goals (refine E.OW.off rfl rfl rfl ?_)
  all_goals (refine E.OW.pure rfl rfl rfl (E.PV.pick_f rfl rfl rfl) ?_)
  all_goals (refine E.OW.pure rfl rfl rfl (E.PV.pick_f rfl rfl rfl) ?_)
  all_goals (
    refine E.OW.nil ?_
    refine E.then_n ?_
    refine E.CW.cond rfl (fun hc => ?_) (fun hc => ?_)
    · (cases hc; done)
    · simp only [E.b0, E.b1, E.b2, E.b3, E.b4, E.b5, E.b6, E.b7, E.b8, E.b9, E.b10, E.b11, E.b12, E.b13, E.b14, E.b15, E.b16, E.b17, E.b18, E.b19, E.b20, reduceCtorEq] at hc
      all_goals (
        refine E.CW.skip ?_
        refine E.then_n ?_
        refine E.CW.seq ?_
        refine E.CW.seq ?_
        refine E.CW.region ?_
        refine E.OW.pure rfl rfl rfl (E.PV.move rfl rfl) ?_
        refine E.OW.pure rfl rfl rfl (E.PV.len Try.underlying22 rfl rfl) ?_
        refine E.OW.pure rfl rfl rfl (E.PV.move rfl rfl) ?_
        refine E.OW.pure rfl rfl rfl (E.PV.add_i64 rfl rfl rfl ?_) ?_; (focus (omega))
        refine E.OW.pure rfl rfl rfl (E.PV.gtr rfl rfl rfl) ?_
        refine E.OW.nil ?_
        refine E.then_n ?_
        refine E.CW.cond rfl (fun hc => ?_) (fun hc => ?_)
        · simp only [E.b0, E.b1, E.b2, E.b3, E.b4, E.b5, E.b6, E.b7, E.b8, E.b9, E.b10, E.b11, E.b12, E.b13, E.b14, E.b15, E.b16, E.b17, E.b18, E.b19, E.b20, reduceCtorEq] at hc
          all_goals (exfalso; omega)
        · simp only [E.b0, E.b1, E.b2, E.b3, E.b4, E.b5, E.b6, E.b7, E.b8, E.b9, E.b10, E.b11, E.b12, E.b13, E.b14, E.b15, E.b16, E.b17, E.b18, E.b19, E.b20, reduceCtorEq] at hc
          all_goals (
            refine E.CW.skip ?_
            refine E.then_n ?_
            refine E.CW.seq ?_
            refine E.CW.region ?_
            refine E.OW.pure rfl rfl rfl (E.PV.move rfl rfl) ?_
            (refine E.OW.call nm40 rfl rfl rfl rfl rfl rfl _ (fun w hw => ClU_ok _ _ _ w ?_ ?_) ?_; (focus (omega)); (focus (refine hw.rd ?_; assumption)); rintro _ _ ⟨AK, cK, rfl, rfl⟩)
            refine E.OW.pure rfl rfl rfl (E.PV.move rfl rfl) ?_
            refine E.OW.pure rfl rfl rfl (E.PV.move rfl rfl) ?_
            (refine E.OW.callM nm57 rfl rfl rfl rfl rfl rfl _ 0 rfl (fun w S hw hs hb hc => dput_ok _ _ _ _ S w hs (fun k hk => (hb k hk).1) ?_ ?_) ?_; (focus (omega)); (focus (assumption)); rintro _ _ ⟨AD, cD, rfl, rfl⟩)
            refine E.OW.pure rfl rfl rfl (E.PV.assign rfl rfl) ?_
            refine E.OW.pure rfl rfl rfl (E.PV.assign rfl rfl) ?_
            refine E.OW.nil ?_
            refine E.then_n ?_
            refine E.CW.ret ?_
            refine E.KR.two [0] Try.results30 rfl rfl rfl ?_
            exact ⟨_, _, rfl, rfl⟩)))

set_option maxRecDepth 100000 in
theorem En_ok (g : E.Cfg) (w0 : World) (hg : g.rd w0 (E.Old w0)) (hgf : g.q.fit) :
    Calls Try.prog 9 #[g.v] w0 (E.Post w0 (E.Old w0) fun v Hn => ∃ A2 c2, v = .tuple #[.slice A2 ((Cf.encR g.q).1).length c2, .int .i64 (Cf.encR g.q).2] ∧ Hn = [E.HP.row 5 1 A2 ((Cf.encR g.q).1).length c2 (E.u8s ((Cf.encR g.q).1))]) := by
  obtain ⟨hX1, hX2, hX3, hX4⟩ := id hg
  have hgl := E.Cfg.fit_len hgf
  have htn := E.Cfg.ts_len g
  refine E.calls_of (vs := [g.v]) (H := []) Try.func9 Try.ntmps9 rfl rfl (E.HA.start w0) ?_
  refine E.CW.seq ?_
  refine E.CW.region ?_
  refine E.OW.box rfl rfl rfl rfl rfl rfl (fun B1 => ?_)
  refine E.OW.pure rfl rfl rfl (E.PV.assign rfl rfl) ?_
  refine E.OW.pure rfl rfl rfl (E.PV.assign rfl rfl) ?_
  refine E.OW.nil ?_
  refine E.then_n ?_
  refine E.CW.seq ?_
  refine E.CW.seq ?_
  refine E.CW.region ?_
  refine E.OW.pure rfl rfl rfl (E.PV.loads (i := 0) is28 rfl rfl rfl rfl) ?_
  (refine E.OW.call nm6 rfl rfl rfl rfl rfl rfl _ (fun w hw => Ck_ok _ w ?_ ?_) ?_; (focus (refine hw.rdC ?_; assumption)); (focus (assumption)); rintro _ _ ⟨rfl, rfl⟩)
  refine E.OW.pure rfl rfl rfl (E.PV.assign rfl rfl) ?_
  refine E.OW.nil ?_
  refine E.then_n ?_
  refine E.CW.seq ?_
  refine E.CW.region ?_
  refine E.OW.pure rfl rfl rfl (E.PV.move rfl rfl) ?_
  refine E.OW.pure rfl rfl rfl (E.PV.neq rfl rfl rfl) ?_
  refine E.OW.nil ?_
  refine E.then_n ?_
  refine E.CW.cond rfl (fun hc => ?_) (fun hc => ?_)
  · simp only [E.b0, E.b1, E.b2, E.b3, E.b4, E.b5, E.b6, E.b7, E.b8, E.b9, E.b10, E.b11, E.b12, E.b13, E.b14, E.b15, E.b16, E.b17, E.b18, E.b19, E.b20, reduceCtorEq] at hc
    all_goals (
      refine E.CW.seq ?_
      refine E.CW.nilrow 5 1 ?_
      refine E.CW.region ?_
      refine E.OW.pure rfl rfl rfl (E.PV.move rfl rfl) ?_
      refine E.OW.pure rfl rfl rfl (E.PV.assign rfl rfl) ?_
      refine E.OW.pure rfl rfl rfl (E.PV.assign rfl rfl) ?_
      refine E.OW.nil ?_
      refine E.then_n ?_
      refine E.CW.ret ?_
      refine E.then_ret ?_
      refine E.KR.two [0] Try.results9 rfl rfl rfl ?_
      rw [show Cf.encR g.q = ([], Cf.check g.q) from if_neg (by assumption)]
      exact ⟨none, 0, rfl, rfl⟩)
  · simp only [E.b0, E.b1, E.b2, E.b3, E.b4, E.b5, E.b6, E.b7, E.b8, E.b9, E.b10, E.b11, E.b12, E.b13, E.b14, E.b15, E.b16, E.b17, E.b18, E.b19, E.b20, reduceCtorEq] at hc
    all_goals (
      refine E.CW.skip ?_
      refine E.then_n ?_
      refine E.CW.seq ?_
      have hcz : Cf.check g.q = 0 := by assumption
      have hz := Cf.check_zero hcz
      have h64 := Fl.validF_len hz.1
      have h16 := (Fl.validS_iff.1 hz.2.1).1
      have ht3 := Cf.teams_len hz.2.2.1
      rw [htn] at ht3
      have hl6 : g.l.length ≤ 64 := h64
      have hs6 : g.s.length ≤ 16 := h16.2
      refine E.CW.region ?_
      refine E.OW.pure rfl rfl rfl (E.PV.build (ps := []) rfl rfl (fun w => bld69_ w)) ?_
      refine E.OW.box rfl rfl rfl rfl rfl rfl (fun B2 => ?_)
      refine E.OW.pure rfl rfl rfl (E.PV.assign rfl rfl) ?_
      refine E.OW.nil ?_
      refine E.then_n ?_
      refine E.CW.seq ?_
      refine E.CW.nilrow 5 1 ?_
      refine E.CW.wrtin (bs := []) 1 0 rfl rfl ?_
      refine E.CW.region ?_
      refine E.OW.pure rfl rfl rfl (E.PV.move rfl rfl) ?_
      refine E.OW.pure rfl rfl rfl (E.PV.fieldAddr fa28_0 rfl rfl) ?_
      refine E.OW.pure rfl rfl rfl (E.PV.fieldAddr fa24_0 rfl rfl) ?_
      refine E.OW.pure rfl rfl rfl (E.PV.load (i := 1) na3 rfl rfl rfl rfl) ?_
      (refine E.OW.callM nm28 rfl rfl rfl rfl rfl rfl _ 0 rfl (fun w S hw hs hb hc => put_ok _ _ _ S w hs (fun k hk => (hb k hk).1) (by simp only [List.length_append, List.length_cons, List.length_nil]; omega)) ?_; rintro _ _ rfl)
      refine E.OW.nil ?_
      refine E.then_n ?_
      refine E.CW.seq ?_
      refine E.CW.region ?_
      refine E.OW.pure rfl rfl rfl (E.PV.move rfl rfl) ?_
      refine E.OW.pure rfl rfl rfl (E.PV.fieldAddr fa28_0 rfl rfl) ?_
      refine E.OW.pure rfl rfl rfl (E.PV.fieldAddr fa24_1 rfl rfl) ?_
      refine E.OW.pure rfl rfl rfl (E.PV.load (i := 1) na3 rfl rfl rfl rfl) ?_
      (refine E.OW.callM nm28 rfl rfl rfl rfl rfl rfl _ 0 rfl (fun w S hw hs hb hc => put_ok _ _ _ S w hs (fun k hk => (hb k hk).1) (by simp only [List.length_append, List.length_cons, List.length_nil]; omega)) ?_; rintro _ _ rfl)
      refine E.OW.nil ?_
      refine E.then_n ?_
      refine E.CW.seq ?_
      refine E.CW.wrtout 0 rfl (fun AW cW => ?_)
      refine E.CW.drawx mixed [2] rfl ?_
      all_goals (refine E.AW.first 0 rfl (by kernel_rfl) (by kernel_rfl) (by kernel_rfl) rfl rfl rfl (E.PV.move rfl rfl) ?_)
      all_goals (refine E.AW.first 1 rfl (by kernel_rfl) (by kernel_rfl) (by kernel_rfl) rfl rfl rfl (E.PV.move rfl rfl) ?_)
      all_goals (refine E.AW.first 2 rfl (by kernel_rfl) (by kernel_rfl) (by kernel_rfl) rfl rfl rfl (E.PV.nilCheck rfl rfl) ?_)
      all_goals (refine E.AW.first 3 rfl (by kernel_rfl) (by kernel_rfl) (by kernel_rfl) rfl rfl rfl (E.PV.fieldAddr fa69_0 rfl rfl) ?_)
      all_goals (refine E.AW.first 5 rfl (by kernel_rfl) (by kernel_rfl) (by kernel_rfl) rfl rfl rfl (E.PV.fieldAddr fa28_0 rfl rfl) ?_)
      all_goals (refine E.AW.first 6 rfl (by kernel_rfl) (by kernel_rfl) (by kernel_rfl) rfl rfl rfl (E.PV.fieldAddr fa24_2 rfl rfl) ?_)
      all_goals (refine E.AW.first 7 rfl (by kernel_rfl) (by kernel_rfl) (by kernel_rfl) rfl rfl rfl (E.PV.load (i := 0) na22 rfl rfl rfl rfl) ?_)
      all_goals (refine E.AW.one 4 (by kernel_rfl) rfl ?_)
      all_goals (refine E.OW.pure rfl rfl rfl (E.PV.load (i := 0) na22 rfl rfl rfl rfl) ?_)
      all_goals (first | (refine E.AW.nil [2] rfl ?_) | (refine E.AW.nil [3] rfl ?_) | (refine E.AW.nil [4] rfl ?_) | (refine E.AW.nil [5] rfl ?_) | (refine E.AW.nil [6] rfl ?_) | (refine E.AW.nil [7] rfl ?_) | (refine E.AW.nil [8] rfl ?_) | (refine E.AW.nil [1] rfl ?_) | (refine E.AW.nil [0] rfl ?_))
      all_goals (refine E.AW.one 8 (by kernel_rfl) rfl ?_)
      all_goals (refine E.OW.app_u8 (i := 1) Try.underlying22 in5 rfl rfl rfl rfl rfl rfl rfl rfl rfl (E.rdc hX1) ?_ (fun A3 c3 => ?_); (focus ((first | omega | (simp only [List.length_append, List.length_cons, List.length_nil] at *; omega) | (unfold maxLen at *; omega)))))
      all_goals (first | (refine E.AW.nil [2] rfl ?_) | (refine E.AW.nil [3] rfl ?_) | (refine E.AW.nil [4] rfl ?_) | (refine E.AW.nil [5] rfl ?_) | (refine E.AW.nil [6] rfl ?_) | (refine E.AW.nil [7] rfl ?_) | (refine E.AW.nil [8] rfl ?_) | (refine E.AW.nil [1] rfl ?_) | (refine E.AW.nil [0] rfl ?_))
      all_goals (refine E.AW.first 9 rfl (by kernel_rfl) (by kernel_rfl) (by kernel_rfl) rfl rfl rfl (E.PV.nilCheck rfl rfl) ?_)
      all_goals (refine E.AW.first 10 rfl (by kernel_rfl) (by kernel_rfl) (by kernel_rfl) rfl rfl rfl (E.PV.fieldAddr fa69_0 rfl rfl) ?_)
      all_goals (refine E.AW.one 11 (by kernel_rfl) rfl ?_)
      all_goals (refine E.OW.store (i := 1) in22.size rfl rfl rfl rfl rfl rfl rfl rfl rfl ?_)
      all_goals (first | (refine E.AW.nil [2] rfl ?_) | (refine E.AW.nil [3] rfl ?_) | (refine E.AW.nil [4] rfl ?_) | (refine E.AW.nil [5] rfl ?_) | (refine E.AW.nil [6] rfl ?_) | (refine E.AW.nil [7] rfl ?_) | (refine E.AW.nil [8] rfl ?_) | (refine E.AW.nil [1] rfl ?_) | (refine E.AW.nil [0] rfl ?_))
      all_goals (refine E.AW.done (by kernel_rfl) ?_)
      all_goals (
        skip
        refine E.then_n ?_
        refine E.CW.seq ?_
        refine E.CW.wrtin 0 0 rfl rfl ?_
        refine E.CW.region ?_
        refine E.OW.pure rfl rfl rfl (E.PV.move rfl rfl) ?_
        refine E.OW.pure rfl rfl rfl (E.PV.fieldAddr fa28_1 rfl rfl) ?_
        refine E.OW.pure rfl rfl rfl (E.PV.load (i := 1) na22 rfl rfl rfl rfl) ?_
        refine E.OW.pure rfl rfl rfl (E.PV.len Try.underlying22 rfl rfl) ?_
        (refine E.OW.callM nm28 rfl rfl rfl rfl rfl rfl _ 0 rfl (fun w S hw hs hb hc => put_ok _ _ _ S w hs (fun k hk => (hb k hk).1) (by simp only [List.length_append, List.length_cons, List.length_nil]; omega)) ?_; rintro _ _ rfl)
        refine E.OW.nil ?_
        refine E.then_n ?_
        refine E.CW.seq ?_
        refine E.CW.wrtout 0 rfl (fun AW cW => ?_)
        refine E.CW.drawx mixed [2] rfl ?_
        all_goals (refine E.AW.first 0 rfl (by kernel_rfl) (by kernel_rfl) (by kernel_rfl) rfl rfl rfl (E.PV.move rfl rfl) ?_)
        all_goals (refine E.AW.first 1 rfl (by kernel_rfl) (by kernel_rfl) (by kernel_rfl) rfl rfl rfl (E.PV.move rfl rfl) ?_)
        all_goals (refine E.AW.first 2 rfl (by kernel_rfl) (by kernel_rfl) (by kernel_rfl) rfl rfl rfl (E.PV.nilCheck rfl rfl) ?_)
        all_goals (refine E.AW.first 3 rfl (by kernel_rfl) (by kernel_rfl) (by kernel_rfl) rfl rfl rfl (E.PV.fieldAddr fa69_0 rfl rfl) ?_)
        all_goals (refine E.AW.first 5 rfl (by kernel_rfl) (by kernel_rfl) (by kernel_rfl) rfl rfl rfl (E.PV.fieldAddr fa28_1 rfl rfl) ?_)
        all_goals (refine E.AW.first 6 rfl (by kernel_rfl) (by kernel_rfl) (by kernel_rfl) rfl rfl rfl (E.PV.load (i := 0) na22 rfl rfl rfl rfl) ?_)
        all_goals (refine E.AW.one 4 (by kernel_rfl) rfl ?_)
        all_goals (refine E.OW.pure rfl rfl rfl (E.PV.load (i := 0) na22 rfl rfl rfl rfl) ?_)
        all_goals (first | (refine E.AW.nil [2] rfl ?_) | (refine E.AW.nil [3] rfl ?_) | (refine E.AW.nil [4] rfl ?_) | (refine E.AW.nil [5] rfl ?_) | (refine E.AW.nil [6] rfl ?_) | (refine E.AW.nil [7] rfl ?_) | (refine E.AW.nil [8] rfl ?_) | (refine E.AW.nil [1] rfl ?_) | (refine E.AW.nil [0] rfl ?_))
        all_goals (refine E.AW.one 7 (by kernel_rfl) rfl ?_)
        all_goals (refine E.OW.app_u8 (i := 1) Try.underlying22 in5 rfl rfl rfl rfl rfl rfl rfl rfl rfl (E.rdc hX2) ?_ (fun A4 c4 => ?_); (focus ((first | omega | (simp only [List.length_append, List.length_cons, List.length_nil] at *; omega) | (unfold maxLen at *; omega)))))
        all_goals (first | (refine E.AW.nil [2] rfl ?_) | (refine E.AW.nil [3] rfl ?_) | (refine E.AW.nil [4] rfl ?_) | (refine E.AW.nil [5] rfl ?_) | (refine E.AW.nil [6] rfl ?_) | (refine E.AW.nil [7] rfl ?_) | (refine E.AW.nil [8] rfl ?_) | (refine E.AW.nil [1] rfl ?_) | (refine E.AW.nil [0] rfl ?_))
        all_goals (refine E.AW.first 8 rfl (by kernel_rfl) (by kernel_rfl) (by kernel_rfl) rfl rfl rfl (E.PV.nilCheck rfl rfl) ?_)
        all_goals (refine E.AW.first 9 rfl (by kernel_rfl) (by kernel_rfl) (by kernel_rfl) rfl rfl rfl (E.PV.fieldAddr fa69_0 rfl rfl) ?_)
        all_goals (refine E.AW.one 10 (by kernel_rfl) rfl ?_)
        all_goals (refine E.OW.store (i := 1) in22.size rfl rfl rfl rfl rfl rfl rfl rfl rfl ?_)
        all_goals (first | (refine E.AW.nil [2] rfl ?_) | (refine E.AW.nil [3] rfl ?_) | (refine E.AW.nil [4] rfl ?_) | (refine E.AW.nil [5] rfl ?_) | (refine E.AW.nil [6] rfl ?_) | (refine E.AW.nil [7] rfl ?_) | (refine E.AW.nil [8] rfl ?_) | (refine E.AW.nil [1] rfl ?_) | (refine E.AW.nil [0] rfl ?_))
        all_goals (refine E.AW.done (by kernel_rfl) ?_)
        all_goals (
          skip
          refine E.then_n ?_
          refine E.CW.seq ?_
          refine E.CW.wrtin 0 0 rfl rfl ?_
          refine E.CW.region ?_
          refine E.OW.pure rfl rfl rfl (E.PV.move rfl rfl) ?_
          refine E.OW.pure rfl rfl rfl (E.PV.fieldAddr fa28_2 rfl rfl) ?_
          refine E.OW.pure rfl rfl rfl (E.PV.load (i := 1) na25 rfl rfl rfl rfl) ?_
          refine E.OW.pure rfl rfl rfl (E.PV.len Try.underlying25 rfl rfl) ?_
          (refine E.OW.callM nm28 rfl rfl rfl rfl rfl rfl _ 0 rfl (fun w S hw hs hb hc => put_ok _ _ _ S w hs (fun k hk => (hb k hk).1) (by simp only [List.length_append, List.length_cons, List.length_nil]; omega)) ?_; rintro _ _ rfl)
          refine E.OW.nil ?_
          refine E.then_n ?_
          refine E.CW.seq ?_
          refine E.CW.seq ?_
          refine E.CW.chunk 0 (E.HP.wrt B2 (Cf.head g.q)) rfl (by simp [Cf.head, E.Cfg.q]) ?_
          refine E.CW.region ?_
          refine E.OW.pure rfl rfl rfl (E.PV.fieldAddr fa28_2 rfl rfl) ?_
          refine E.OW.pure rfl rfl rfl (E.PV.load (i := 1) na25 rfl rfl rfl rfl) ?_
          refine E.OW.pure rfl rfl rfl (E.PV.len Try.underlying25 rfl rfl) ?_
          refine E.OW.pure rfl rfl rfl (E.PV.move rfl rfl) ?_
          refine E.OW.nil ?_
          refine E.then_n ?_
          refine E.CW.block ?_
          refine E.CW.loopk [1, 5, 57, 58] 1 rfl rfl (fun mm mods Hm => ∃ k : Nat, mm = g.ts.length - k ∧ mods = [(59, .int .i64 k)] ∧ Hm = [E.HP.wrt B2 (Cf.head g.q ++ Cf.encTs g.q.ts k)] ∧ k ≤ g.ts.length) (g.ts.length) ?_ ?_
          · exact ⟨[(59, _)], (by repeat (first | exact E.cov_nil | refine ⟨rfl, ?_⟩)), 0, rfl, rfl, by simp [Cf.encTs], by omega⟩
          · rintro _ _ _ ⟨k, rfl, rfl, rfl, hk⟩
            have hdl := Cf.hdts_len hcz (k := k) (by omega)
            refine E.CW.seq ?_
            refine E.CW.region ?_
            refine E.OW.pure rfl rfl rfl (E.PV.lss rfl rfl rfl) ?_
            refine E.OW.nil ?_
            refine E.then_n ?_
            refine E.CW.seq ?_
            refine E.CW.cond rfl (fun hc => ?_) (fun hc => ?_)
            · simp only [E.b0, E.b1, E.b2, E.b3, E.b4, E.b5, E.b6, E.b7, E.b8, E.b9, E.b10, E.b11, E.b12, E.b13, E.b14, E.b15, E.b16, E.b17, E.b18, E.b19, E.b20, reduceCtorEq] at hc
              all_goals (
                refine E.CW.skip ?_
                refine E.then_n ?_
                refine E.CW.seq ?_
                refine E.CW.block ?_
                refine E.CW.seq ?_
                refine E.CW.region ?_
                refine E.OW.pure rfl rfl rfl (E.PV.indexAddr (E.rdc hX3) Try.underlying25 in52 rfl rfl rfl rfl ?_ ?_ (by decide)) ?_; (focus (first | (simp; done) | (simp; omega))); (focus (omega))
                refine E.OW.pure rfl rfl rfl (E.PV.load_tm (E.rdc hX3) is52 rfl rfl ?_) ?_; (focus (omega))
                refine E.OW.alloc (in52.zr) rfl rfl rfl rfl rfl (fun B5 => ?_)
                refine E.OW.store (i := 0) in52.size rfl rfl rfl rfl rfl rfl rfl rfl rfl ?_
                refine E.OW.nil ?_
                refine E.then_n ?_
                refine E.CW.region ?_
                refine E.OW.pure rfl rfl rfl (E.PV.move rfl rfl) ?_
                refine E.OW.pure rfl rfl rfl (E.PV.loads (i := 0) is52 rfl rfl rfl rfl) ?_
                (refine E.OW.callM nm29 rfl rfl rfl rfl rfl rfl _ 1 rfl (fun w S hw hs hb hc => wtm_ok _ _ (g.ts.getD k E.Tm.z) S w hs (fun k hk => (hb k hk).1) (by omega) (Cf.all_small hcz _ (by rw [← E.Cfg.ts_getD]; exact Cf.getD_mem2 (by omega))) (hw.rdTM (hg.m _ (E.Tm.mem (by omega))) hb)) ?_; rintro _ _ rfl)
                refine E.OW.nil ?_
                refine E.blk_n ?_
                refine E.then_n ?_
                refine E.CW.region ?_
                refine E.OW.pure rfl rfl rfl (E.PV.add_i64 rfl rfl rfl ?_) ?_; (focus (omega))
                refine E.OW.pure rfl rfl rfl (E.PV.move rfl rfl) ?_
                refine E.OW.nil ?_
                refine E.then_nf ?_
                refine ⟨_, [(59, _)], [0, 1], _, ?_, by repeat (first | exact E.cov_nil | refine ⟨rfl, ?_⟩), rfl, k + 1, rfl, rfl, by rw [Cf.encTs_succ (by omega), E.Cfg.ts_getD, ← List.append_assoc], by omega⟩
                omega)
            · simp only [E.b0, E.b1, E.b2, E.b3, E.b4, E.b5, E.b6, E.b7, E.b8, E.b9, E.b10, E.b11, E.b12, E.b13, E.b14, E.b15, E.b16, E.b17, E.b18, E.b19, E.b20, reduceCtorEq] at hc
              all_goals (
                refine E.CW.exit ?_
                refine E.then_x ?_
                refine E.then_x ?_
                refine E.blk_eq ?_
                refine E.then_n ?_
                refine E.CW.seq ?_
                obtain rfl : k = g.q.ts.length := by omega
                have hst := hgf.st
                refine E.CW.wrtout 0 rfl (fun AW cW => ?_)
                refine E.CW.drawx mixed [0, 1] rfl ?_
                all_goals (refine E.AW.first 0 rfl (by kernel_rfl) (by kernel_rfl) (by kernel_rfl) rfl rfl rfl (E.PV.move rfl rfl) ?_)
                all_goals (refine E.AW.first 1 rfl (by kernel_rfl) (by kernel_rfl) (by kernel_rfl) rfl rfl rfl (E.PV.nilCheck rfl rfl) ?_)
                all_goals (refine E.AW.first 2 rfl (by kernel_rfl) (by kernel_rfl) (by kernel_rfl) rfl rfl rfl (E.PV.fieldAddr fa69_0 rfl rfl) ?_)
                all_goals (refine E.AW.first 3 rfl (by kernel_rfl) (by kernel_rfl) (by kernel_rfl) rfl rfl rfl (E.PV.load (i := 0) na22 rfl rfl rfl rfl) ?_)
                all_goals (refine E.AW.first 4 rfl (by kernel_rfl) (by kernel_rfl) (by kernel_rfl) rfl rfl rfl (E.PV.fieldAddr fa28_3 rfl rfl) ?_)
                all_goals (refine E.AW.first 5 rfl (by kernel_rfl) (by kernel_rfl) (by kernel_rfl) rfl rfl rfl (E.PV.load (i := 1) na26 rfl rfl rfl rfl) ?_)
                all_goals (refine E.AW.one 6 (by kernel_rfl) rfl ?_)
                all_goals ((refine E.OW.call nm30 rfl rfl rfl rfl rfl rfl _ (fun w hw => PU_ok _ _ _ _ w (by omega) ?_ ?_) ?_; (focus (assumption)); (focus (exact hw.rdrow (i := 1) rfl)); rintro _ _ ⟨AU, cU, rfl, rfl⟩))
                all_goals (first | (refine E.AW.nil [0, 1] rfl ?_) | (refine E.AW.nil [1, 2] rfl ?_) | (refine E.AW.nil [2, 3] rfl ?_) | (refine E.AW.nil [3, 4] rfl ?_) | (refine E.AW.nil [4, 5] rfl ?_) | (refine E.AW.nil [5, 6] rfl ?_) | (refine E.AW.nil [6, 7] rfl ?_) | (refine E.AW.nil [0, 0] rfl ?_) | (refine E.AW.nil [0, 0] rfl ?_))
                all_goals (refine E.AW.first 7 rfl (by kernel_rfl) (by kernel_rfl) (by kernel_rfl) rfl rfl rfl (E.PV.extract rfl rfl rfl) ?_)
                all_goals (refine E.AW.first 8 rfl (by kernel_rfl) (by kernel_rfl) (by kernel_rfl) rfl rfl rfl (E.PV.extract rfl rfl rfl) ?_)
                all_goals (refine E.AW.first 9 rfl (by kernel_rfl) (by kernel_rfl) (by kernel_rfl) rfl rfl rfl (E.PV.assign rfl rfl) ?_)
                all_goals (refine E.AW.first 10 rfl (by kernel_rfl) (by kernel_rfl) (by kernel_rfl) rfl rfl rfl (E.PV.assign rfl rfl) ?_)
                all_goals (refine E.AW.done (by kernel_rfl) ?_)
                all_goals (
                  skip
                  refine E.then_n ?_
                  refine E.CW.ret ?_
                  refine E.KR.two [0] Try.results9 rfl rfl rfl ?_
                  rw [show Cf.encR g.q = (Cf.enc g.q, 0) from if_pos hcz]
                  exact ⟨_, _, rfl, rfl⟩)))))
end Go.Proofs.Yteibcphdbkgcgaa
