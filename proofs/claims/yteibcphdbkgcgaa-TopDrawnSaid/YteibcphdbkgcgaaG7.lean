/- Walks (printed by gen.py). -/
import Derived.Test.YteibcphdbkgcgaaG6
namespace Go.Proofs.Yteibcphdbkgcgaa
open Go Go.RowKit
set_option linter.unusedSimpArgs false
set_option linter.unusedVariables false

set_option maxRecDepth 100000 in
theorem tmr_ok (B : Nat) (A : Option Addr) (c : Nat) (b : List UInt8) (p : Nat) (e : Int) (S : Nat → Prop) (w0 : World) (hS : (E.HP.blk B 77 [.slice A b.length c, .int .i64 p, .int .i64 e]).sem S w0) (hb : ∀ k, S k → k < w0.heap.size) (hc8 : b.length ≤ c) (hl : b.length ≤ 100000) (hp : p ≤ b.length) (he : e = 0 ∨ e = 10) (hX : E.Rd w0 (E.Fm w0 S) A (E.u8s b)) :
    Calls Try.prog 35 #[.pointer (some ⟨B, 0, none⟩)] w0 (E.Post w0 (E.Fm w0 S) fun v Hn => ∃ (m2 : E.Tm) (p2 : Nat) (e2 : Int), v = m2.v ∧ Hn = [E.HP.tm m2, E.HP.blk B 77 [.slice A b.length c, .int .i64 p2, .int .i64 e2]] ∧ p2 ≤ b.length ∧ (e2 = 0 ∨ e2 = 10) ∧ m2.q.fit ∧ Cf.Res Cf.tmP (Cf.str b p e) m2.q (Cf.str b p2 e2)) := by
  refine E.calls_of (vs := [.pointer (some ⟨B, 0, none⟩)]) (H := [E.HP.blk B 77 [.slice A b.length c, .int .i64 p, .int .i64 e]]) Try.func35 Try.ntmps35 rfl rfl (E.HA.startM hS hb) ?_
  refine E.CW.seq ?_
  refine E.CW.region ?_
  refine E.OW.alloc (in52.zr) rfl rfl rfl rfl rfl (fun B1 => ?_)
  refine E.OW.nil ?_
  refine E.then_n ?_
  refine E.CW.seq ?_
  refine E.CW.region ?_
  refine E.OW.pure rfl rfl rfl (E.PV.move rfl rfl) ?_
  (refine E.OW.callM nm60 rfl rfl rfl rfl rfl rfl _ 1 rfl (fun w S hw hs hb hc => lsr_ok _ _ _ _ _ _ S w hs (fun k hk => (hb k hk).1) ?_ ?_ ?_ ?_ ?_) ?_; (focus (assumption)); (focus (assumption)); (focus (assumption)); (focus (assumption)); (focus (refine hw.rdM ?_ hb; assumption)); rintro _ _ ⟨AI, cI, LI, pI, eI, rfl, rfl, hpI, heI, hLI, hrI⟩)
  refine E.OW.pure rfl rfl rfl (E.PV.build (ps := [(0, .tmp 7)]) rfl rfl (fun w => bld52_0 _ _ _ w)) ?_
  refine E.OW.alloc (in52.zr) rfl rfl rfl rfl rfl (fun B2 => ?_)
  refine E.OW.store (i := 0) in52.size rfl rfl rfl rfl rfl rfl rfl rfl rfl ?_
  refine E.OW.nil ?_
  refine E.then_n ?_
  refine E.CW.seq ?_
  refine E.CW.seq ?_
  refine E.CW.region ?_
  refine E.OW.pure rfl rfl rfl (E.PV.fieldAddr fa52_0 rfl rfl) ?_
  refine E.OW.pure rfl rfl rfl (E.PV.load (i := 0) na50 rfl rfl rfl rfl) ?_
  refine E.OW.pure rfl rfl rfl (E.PV.len Try.underlying50 rfl rfl) ?_
  refine E.OW.pure rfl rfl rfl (E.PV.eql rfl rfl rfl) ?_
  refine E.OW.nil ?_
  refine E.then_n ?_
  refine E.CW.cond rfl (fun hc => ?_) (fun hc => ?_)
  · simp only [E.b0, E.b1, E.b2, E.b3, E.b4, E.b5, E.b6, E.b7, E.b8, E.b9, E.b10, E.b11, E.b12, E.b13, E.b14, E.b15, E.b16, E.b17, E.b18, E.b19, E.b20, reduceCtorEq] at hc
    all_goals (
      refine E.CW.seq ?_
      refine E.CW.nilrow 3 1 ?_
      refine E.CW.nilrow 3 1 ?_
      refine E.CW.gather [3, 0, 0, 0, 0, 0] 3 rfl rfl ?_
      refine E.CW.region ?_
      refine E.OW.pure rfl rfl rfl (E.PV.loads (i := 1) is52 rfl rfl rfl rfl) ?_
      refine E.OW.store (i := 3) in52.size rfl rfl rfl rfl rfl rfl rfl rfl rfl ?_
      refine E.OW.nil ?_
      refine E.then_n ?_
      refine E.CW.ret ?_
      refine E.then_ret ?_
      refine E.KR.rv1 [1, 2] Try.results35 (E.rv.cell is52 rfl (E.sli 0 rfl) rfl) rfl ?_
      exact ⟨⟨⟨LI, [], [], 0, 0, 0, 0, 0⟩, AI, none, none, cI, 0, 0⟩, _, _, rfl, rfl, hpI, heI, Cf.fit_tiny0 hLI, Cf.res_tm0 hrI (by omega)⟩)
  · simp only [E.b0, E.b1, E.b2, E.b3, E.b4, E.b5, E.b6, E.b7, E.b8, E.b9, E.b10, E.b11, E.b12, E.b13, E.b14, E.b15, E.b16, E.b17, E.b18, E.b19, E.b20, reduceCtorEq] at hc
    all_goals (
      refine E.CW.skip ?_
      refine E.then_n ?_
      refine E.CW.seq ?_
      refine E.CW.region ?_
      refine E.OW.pure rfl rfl rfl (E.PV.move rfl rfl) ?_
      (refine E.OW.callM nm60 rfl rfl rfl rfl rfl rfl _ 2 rfl (fun w S hw hs hb hc => lsr_ok _ _ _ _ _ _ S w hs (fun k hk => (hb k hk).1) ?_ ?_ ?_ ?_ ?_) ?_; (focus (assumption)); (focus (assumption)); (focus (assumption)); (focus (assumption)); (focus (refine hw.rdM ?_ hb; assumption)); rintro _ _ ⟨AI2, cI2, LI2, pI2, eI2, rfl, rfl, hpI2, heI2, hLI2, hrI2⟩)
      refine E.OW.pure rfl rfl rfl (E.PV.move rfl rfl) ?_
      (refine E.OW.callM nm60 rfl rfl rfl rfl rfl rfl _ 1 rfl (fun w S hw hs hb hc => lsr_ok _ _ _ _ _ _ S w hs (fun k hk => (hb k hk).1) ?_ ?_ ?_ ?_ ?_) ?_; (focus (assumption)); (focus (assumption)); (focus (assumption)); (focus (assumption)); (focus (refine hw.rdM ?_ hb; assumption)); rintro _ _ ⟨AI3, cI3, LI3, pI3, eI3, rfl, rfl, hpI3, heI3, hLI3, hrI3⟩)
      refine E.OW.pure rfl rfl rfl (E.PV.fieldAddr fa52_1 rfl rfl) ?_
      refine E.OW.store (i := 3) in50.size rfl rfl rfl rfl rfl rfl rfl rfl rfl ?_
      refine E.OW.pure rfl rfl rfl (E.PV.fieldAddr fa52_2 rfl rfl) ?_
      refine E.OW.store (i := 0) in50.size rfl rfl rfl rfl rfl rfl rfl rfl rfl ?_
      refine E.OW.nil ?_
      refine E.then_n ?_
      refine E.CW.seq ?_
      refine E.CW.seq ?_
      refine E.CW.region ?_
      refine E.OW.pure rfl rfl rfl (E.PV.fieldAddr fa52_3 rfl rfl) ?_
      refine E.OW.pure rfl rfl rfl (E.PV.fieldAddr fa52_4 rfl rfl) ?_
      refine E.OW.pure rfl rfl rfl (E.PV.fieldAddr fa52_5 rfl rfl) ?_
      refine E.OW.pure rfl rfl rfl (E.PV.fieldAddr fa52_6 rfl rfl) ?_
      refine E.OW.pure rfl rfl rfl (E.PV.fieldAddr fa52_7 rfl rfl) ?_
      refine E.OW.buildSlice (Et := 104) (sz := 1) (cs := E.ptrs B2 3 5) (ps := [(0, .tmp 20), (1, .tmp 21), (2, .tmp 22), (3, .tmp 23), (4, .tmp 24)]) rfl rfl rfl rfl rfl rfl (by unfold maxLen; omega) (fun w => bsl105_5_0_1_2_3_4 _ _ _ _ _ w) (fun AL => ?_)
      refine E.OW.pure rfl rfl rfl (E.PV.len Try.underlying105 rfl rfl) ?_
      refine E.OW.pure rfl rfl rfl (E.PV.move rfl rfl) ?_
      refine E.OW.nil ?_
      refine E.then_n ?_
      refine E.CW.block ?_
      refine E.CW.sels [1, 2, 0, 0, 0, 0, 0] rfl ?_
      refine E.CW.loopk [0, 2, 3, 25, 26] 2 rfl rfl (fun mm mods Hm => ∃ k : Nat, ∃ xs : List Int, ∃ p4 : Nat, ∃ e4 : Int, mm = 5 - k ∧ mods = [(27, .int .i64 k)] ∧ Hm = [E.HP.blk B2 52 ([.slice AI (List.length LI) cI, .slice AI2 (List.length LI2) cI2, .slice AI3 (List.length LI3) cI3] ++ E.ints (xs ++ List.replicate (5 - k) 0)), E.HP.blk B 77 [.slice A b.length c, .int .i64 p4, .int .i64 e4]] ∧ (k ≤ 5 ∧ xs.length = k ∧ (∀ n ∈ xs, 0 ≤ n ∧ n < 256) ∧ p4 ≤ b.length ∧ (e4 = 0 ∨ e4 = 10) ∧ Cf.Res (Cf.nsP k) (Cf.str b pI3 eI3) xs (Cf.str b p4 e4))) (5) ?_ ?_
      · exact ⟨[(27, _)], (by repeat (first | exact E.cov_nil | refine ⟨rfl, ?_⟩)), 0, [], pI3, eI3, rfl, rfl, rfl, by omega, rfl, (fun n hn => by cases hn), hpI3, heI3, Cf.res_ns0 _⟩
      · rintro _ _ _ ⟨k, xs, p4, e4, rfl, rfl, rfl, hk, hxl, hxb, hp4, he4, hr4⟩
        refine E.CW.seq ?_
        refine E.CW.region ?_
        refine E.OW.pure rfl rfl rfl (E.PV.lss rfl rfl rfl) ?_
        refine E.OW.nil ?_
        refine E.then_n ?_
        refine E.CW.seq ?_
        refine E.CW.cond rfl (fun hc => ?_) (fun hc => ?_)
        · simp only [E.b0, E.b1, E.b2, E.b3, E.b4, E.b5, E.b6, E.b7, E.b8, E.b9, E.b10, E.b11, E.b12, E.b13, E.b14, E.b15, E.b16, E.b17, E.b18, E.b19, E.b20, reduceCtorEq] at hc
          all_goals (
            refine E.CW.skip ?_
            refine E.then_n ?_
            refine E.CW.seq ?_
            refine E.CW.block ?_
            refine E.CW.seq ?_
            refine E.CW.region ?_
            refine E.OW.pure rfl rfl rfl (E.PV.indexAddr1 (E.rdr (i := 2) rfl) Try.underlying105 in104 rfl rfl rfl rfl ?_ ?_) ?_; (focus (first | (simp; done) | (simp; omega))); (focus (omega))
            refine E.OW.pure rfl rfl rfl (E.PV.load_ptr (E.rdr (i := 2) rfl) na104 rfl rfl (by omega)) ?_
            refine E.OW.pure rfl rfl rfl (E.PV.assign rfl rfl) ?_
            refine E.OW.nil ?_
            refine E.then_n ?_
            refine E.CW.region ?_
            refine E.OW.pure rfl rfl rfl (E.PV.move rfl rfl) ?_
            refine E.OW.pure rfl rfl rfl (E.PV.move rfl rfl) ?_
            (refine E.OW.callM nm32 rfl rfl rfl rfl rfl rfl _ 1 rfl (fun w S hw hs hb hc => nxt_ok _ _ _ _ _ _ S w hs (fun k hk => (hb k hk).1) ?_ ?_ ?_ ?_ ?_) ?_; (focus (assumption)); (focus (assumption)); (focus (assumption)); (focus (assumption)); (focus (refine hw.rdM ?_ hb; assumption)); rintro _ _ ⟨xN, pN, eN, rfl, rfl, hpN, heN, hxN, hrN⟩)
            refine E.OW.pure rfl rfl rfl (E.PV.nilCheck rfl rfl) ?_
            refine E.OW.store_tail (i := 1) in3.size rfl rfl rfl rfl rfl rfl (by simp; omega) rfl ?_
            refine E.OW.nil ?_
            refine E.blk_n ?_
            refine E.then_n ?_
            refine E.CW.region ?_
            refine E.OW.pure rfl rfl rfl (E.PV.add_i64 rfl rfl rfl ?_) ?_; (focus (omega))
            refine E.OW.pure rfl rfl rfl (E.PV.move rfl rfl) ?_
            refine E.OW.nil ?_
            refine E.then_nf ?_
            refine ⟨_, [(27, _)], [0, 0, 0, 0, 0, 0, 0], _, ?_, by repeat (first | exact E.cov_nil | refine ⟨rfl, ?_⟩), rfl, k + 1, xs ++ [(xN : Int)], pN, eN, rfl, rfl, by rw [← E.set_tail hxl (by omega)], by omega, by simp; omega, Cf.tiny_snoc hxb hxN, hpN, heN, Cf.res_ns hr4 hrN⟩
            omega)
        · simp only [E.b0, E.b1, E.b2, E.b3, E.b4, E.b5, E.b6, E.b7, E.b8, E.b9, E.b10, E.b11, E.b12, E.b13, E.b14, E.b15, E.b16, E.b17, E.b18, E.b19, E.b20, reduceCtorEq] at hc
          all_goals (
            refine E.CW.exit ?_
            refine E.then_x ?_
            refine E.then_x ?_
            refine E.blk_eq ?_
            refine E.then_n ?_
            refine E.CW.seq ?_
            obtain rfl : k = 5 := by omega
            obtain ⟨x1, x2, x3, x4, x5, rfl⟩ := Cf.five hxl
            refine E.CW.chunk 0 (E.HP.blk B2 52 (E.Tm.cells ⟨⟨LI, LI2, LI3, x1, x2, x3, x4, x5⟩, AI, AI2, AI3, cI, cI2, cI3⟩)) rfl rfl ?_
            refine E.CW.gather [5, 4, 3, 0, 0, 0, 0] 3 rfl rfl ?_
            refine E.CW.region ?_
            refine E.OW.pure rfl rfl rfl (E.PV.loads (i := 1) is52 rfl rfl rfl rfl) ?_
            refine E.OW.store (i := 4) in52.size rfl rfl rfl rfl rfl rfl rfl rfl rfl ?_
            refine E.OW.nil ?_
            refine E.then_n ?_
            refine E.CW.ret ?_
            refine E.KR.rv1 [1, 2] Try.results35 (E.rv.cell is52 rfl (E.sli 0 rfl) rfl) rfl ?_
            exact ⟨⟨⟨LI, LI2, LI3, x1, x2, x3, x4, x5⟩, AI, AI2, AI3, cI, cI2, cI3⟩, _, _, rfl, rfl, hp4, he4, Cf.fit_tiny hLI hLI2 hLI3 hxb, Cf.res_tm1 hrI (by omega) hrI2 hrI3 hr4⟩))

set_option maxRecDepth 100000 in
theorem tmsr_ok (B : Nat) (A : Option Addr) (c : Nat) (b : List UInt8) (p : Nat) (e : Int) (m : Nat) (S : Nat → Prop) (w0 : World) (hm : m ≤ 100000) (hS : (E.HP.blk B 77 [.slice A b.length c, .int .i64 p, .int .i64 e]).sem S w0) (hb : ∀ k, S k → k < w0.heap.size) (hc8 : b.length ≤ c) (hl : b.length ≤ 100000) (hp : p ≤ b.length) (he : e = 0 ∨ e = 10) (hX : E.Rd w0 (E.Fm w0 S) A (E.u8s b)) :
    Calls Try.prog 34 #[.pointer (some ⟨B, 0, none⟩), .int .i64 m, .func (.func 35) #[.pointer (some ⟨B, 0, none⟩)] #[]] w0 (E.Post w0 (E.Fm w0 S) fun v Hn => ∃ A2 c2 tt p2 e2, v = .slice A2 (List.length tt) c2 ∧ Hn = [E.HP.row 52 8 A2 (List.length tt) c2 (E.tms tt), E.HP.tms tt, E.HP.blk B 77 [.slice A b.length c, .int .i64 (p2 : Nat), .int .i64 e2]] ∧ (p2 : Nat) ≤ b.length ∧ (e2 = 0 ∨ e2 = 10) ∧ tt.length ≤ m ∧ (∀ m ∈ tt, m.q.fit) ∧ Cf.Res (Cf.tmsP m) (Cf.str b p e) (tt.map (·.q)) (Cf.str b p2 e2)) := by
  refine E.calls_of (vs := [.pointer (some ⟨B, 0, none⟩), .int .i64 m, .func (.func 35) #[.pointer (some ⟨B, 0, none⟩)] #[]]) (H := [E.HP.blk B 77 [.slice A b.length c, .int .i64 p, .int .i64 e]]) Try.func34 Try.ntmps34 rfl rfl (E.HA.startM hS hb) ?_
  refine E.CW.seq ?_
  refine E.CW.region ?_
  refine E.OW.pure rfl rfl rfl (E.PV.assign rfl rfl) ?_
  refine E.OW.nil ?_
  refine E.then_n ?_
  refine E.CW.seq ?_
  refine E.CW.region ?_
  refine E.OW.pure rfl rfl rfl (E.PV.assign rfl rfl) ?_
  refine E.OW.nil ?_
  refine E.then_n ?_
  refine E.CW.seq ?_
  refine E.CW.seq ?_
  refine E.CW.nilrow 52 8 ?_
  refine E.CW.tmsnil ?_
  refine E.CW.region ?_
  refine E.OW.pure rfl rfl rfl (E.PV.move rfl rfl) ?_
  refine E.OW.pure rfl rfl rfl (E.PV.move rfl rfl) ?_
  refine E.OW.nil ?_
  refine E.then_n ?_
  refine E.CW.block ?_
  refine E.CW.loopk [0, 2, 8] 3 rfl rfl (fun mm mods Hm => ∃ k : Nat, ∃ D : Option Addr, ∃ q : Nat, ∃ tt : List E.Tm, ∃ p4 : Nat, ∃ e4 : Int, mm = m - k ∧ mods = [(9, .int .i64 k), (7, .slice D tt.length q)] ∧ Hm = [E.HP.tms tt, E.HP.row 52 8 D tt.length q (E.tms tt), E.HP.blk B 77 [.slice A b.length c, .int .i64 p4, .int .i64 e4]] ∧ (k ≤ m ∧ tt.length ≤ k ∧ (∀ m ∈ tt, m.q.fit) ∧ p4 ≤ b.length ∧ (e4 = 0 ∨ e4 = 10) ∧ Cf.Res (Cf.tmsP k) (Cf.str b p e) (tt.map (·.q)) (Cf.str b p4 e4))) (m) ?_ ?_
  · exact ⟨[(9, _), (7, _)], (by repeat (first | exact E.cov_nil | refine ⟨rfl, ?_⟩)), 0, none, 0, [], p, e, rfl, rfl, rfl, by omega, by simp, (fun m hm => by cases hm), hp, he, Cf.res_tms0 _⟩
  · rintro _ _ _ ⟨k, D, q, tt, p4, e4, rfl, rfl, rfl, hk, htl, hft, hp4, he4, hr4⟩
    refine E.CW.seq ?_
    refine E.CW.region ?_
    refine E.OW.pure rfl rfl rfl (E.PV.lss rfl rfl rfl) ?_
    refine E.OW.nil ?_
    refine E.then_n ?_
    refine E.CW.seq ?_
    refine E.CW.cond rfl (fun hc => ?_) (fun hc => ?_)
    · simp only [E.b0, E.b1, E.b2, E.b3, E.b4, E.b5, E.b6, E.b7, E.b8, E.b9, E.b10, E.b11, E.b12, E.b13, E.b14, E.b15, E.b16, E.b17, E.b18, E.b19, E.b20, reduceCtorEq] at hc
      all_goals (
        refine E.CW.skip ?_
        refine E.then_n ?_
        refine E.CW.seq ?_
        refine E.CW.block ?_
        refine E.CW.seq ?_
        refine E.CW.region ?_
        refine E.OW.pure rfl rfl rfl (E.PV.move rfl rfl) ?_
        refine E.OW.pure rfl rfl rfl (E.PV.nilCheck rfl rfl) ?_
        refine E.OW.pure rfl rfl rfl (E.PV.fieldAddr fa77_2 rfl rfl) ?_
        refine E.OW.pure rfl rfl rfl (E.PV.load (i := 2) na31 rfl rfl rfl rfl) ?_
        refine E.OW.pure rfl rfl rfl (E.PV.eql rfl rfl rfl) ?_
        refine E.OW.nil ?_
        refine E.then_n ?_
        refine E.CW.cond rfl (fun hc => ?_) (fun hc => ?_)
        · simp only [E.b0, E.b1, E.b2, E.b3, E.b4, E.b5, E.b6, E.b7, E.b8, E.b9, E.b10, E.b11, E.b12, E.b13, E.b14, E.b15, E.b16, E.b17, E.b18, E.b19, E.b20, reduceCtorEq] at hc
          all_goals (
            refine E.CW.region ?_
            refine E.OW.pure rfl rfl rfl (E.PV.move rfl rfl) ?_
            refine E.OW.pure rfl rfl rfl (E.PV.move rfl rfl) ?_
            (refine E.OW.callMF (us := [.pointer (some ⟨B, 0, none⟩)]) nm35 rfl rfl rfl rfl rfl rfl _ 2 rfl (fun w S hw hs hb hc => tmr_ok _ _ _ _ _ _ S w hs (fun k hk => (hb k hk).1) ?_ ?_ ?_ ?_ ?_) ?_; (focus (assumption)); (focus (assumption)); (focus (assumption)); (focus (assumption)); (focus (refine hw.rdM ?_ hb; assumption)); rintro _ _ ⟨mT, pT, eT, rfl, rfl, hpT, heT, hfT, hrT⟩)
            refine E.OW.buildSlice (Et := 52) (sz := 8) (cs := E.tms [mT]) (ps := [(0, .tmp 18)]) rfl rfl rfl rfl rfl (by simp) (by unfold maxLen; omega) (fun w => bsl25_1_0 _ _ _ _ _ _ _ _ _ _ _ _ _ _ w) (fun AL => ?_)
            refine E.OW.app_tm (i := 3) (j := 0) Try.underlying25 in52 rfl rfl rfl rfl rfl rfl rfl rfl rfl rfl ?_ ?_ (fun AT cT => ?_); (focus (unfold maxLen; omega)); (focus (omega))
            refine E.OW.pure rfl rfl rfl (E.PV.assign rfl rfl) ?_
            refine E.OW.tmsnoc 1 2 rfl rfl ?_
            refine E.OW.nil ?_
            refine E.blk_n ?_
            refine E.then_n ?_
            refine E.CW.region ?_
            refine E.OW.pure rfl rfl rfl (E.PV.add_i64 rfl rfl rfl ?_) ?_; (focus (omega))
            refine E.OW.pure rfl rfl rfl (E.PV.move rfl rfl) ?_
            refine E.OW.nil ?_
            refine E.then_nf ?_
            refine ⟨_, [(9, _), (7, _)], [0, 0, 0], _, ?_, by repeat (first | exact E.cov_nil | refine ⟨rfl, ?_⟩), rfl, k + 1, AT, cT, tt ++ [mT], pT, eT, rfl, rfl, rfl, by omega, by simp; omega, Cf.fits_snoc hft hfT, hpT, heT, by rw [List.map_append]; exact Cf.res_tms hr4 hrT⟩
            omega)
        · simp only [E.b0, E.b1, E.b2, E.b3, E.b4, E.b5, E.b6, E.b7, E.b8, E.b9, E.b10, E.b11, E.b12, E.b13, E.b14, E.b15, E.b16, E.b17, E.b18, E.b19, E.b20, reduceCtorEq] at hc
          all_goals (
            refine E.CW.skip ?_
            refine E.blk_n ?_
            refine E.then_n ?_
            refine E.CW.region ?_
            refine E.OW.pure rfl rfl rfl (E.PV.add_i64 rfl rfl rfl ?_) ?_; (focus (omega))
            refine E.OW.pure rfl rfl rfl (E.PV.move rfl rfl) ?_
            refine E.OW.nil ?_
            refine E.then_nf ?_
            refine ⟨_, [(9, _), (7, _)], [0, 0, 0], _, ?_, by repeat (first | exact E.cov_nil | refine ⟨rfl, ?_⟩), rfl, k + 1, D, q, tt, p4, e4, rfl, rfl, rfl, by omega, by omega, hft, hp4, he4, by rw [Cf.str_bad (show ¬ e4 = 0 from by assumption)] at hr4 ⊢; exact Cf.res_tms_bad hr4⟩
            omega))
    · simp only [E.b0, E.b1, E.b2, E.b3, E.b4, E.b5, E.b6, E.b7, E.b8, E.b9, E.b10, E.b11, E.b12, E.b13, E.b14, E.b15, E.b16, E.b17, E.b18, E.b19, E.b20, reduceCtorEq] at hc
      all_goals (
        refine E.CW.exit ?_
        refine E.then_x ?_
        refine E.then_x ?_
        refine E.blk_eq ?_
        refine E.then_n ?_
        refine E.CW.seq ?_
        refine E.CW.region ?_
        refine E.OW.pure rfl rfl rfl (E.PV.move rfl rfl) ?_
        refine E.OW.pure rfl rfl rfl (E.PV.assign rfl rfl) ?_
        refine E.OW.nil ?_
        refine E.then_n ?_
        refine E.CW.ret ?_
        refine E.KR.one [1, 0, 0] Try.results34 rfl rfl ?_
        obtain rfl : k = m := by omega
        exact ⟨_, _, _, _, _, rfl, rfl, hp4, he4, htl, hft, hr4⟩)
end Go.Proofs.Yteibcphdbkgcgaa
