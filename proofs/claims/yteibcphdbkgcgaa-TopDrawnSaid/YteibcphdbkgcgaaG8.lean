/- Walks (printed by gen.py). -/
import Derived.Test.YteibcphdbkgcgaaG7
namespace Go.Proofs.Yteibcphdbkgcgaa
open Go Go.RowKit
set_option linter.unusedSimpArgs false
set_option linter.unusedVariables false

set_option maxRecDepth 100000 in
theorem De_ok (A : Option Addr) (c : Nat) (b : List UInt8)  (w0 : World) (hc8 : b.length ≤ c) (hl : b.length ≤ 140737488351232) (hX : E.Rd w0 (E.Old w0) A (E.u8s b)) :
    Calls Try.prog 12 #[.slice A b.length c] w0 (E.Post w0 (E.Old w0) fun v Hn => ∃ g2 : E.Cfg, v = .tuple #[g2.v, .int .i64 (Cf.dec b).2] ∧ Hn = [E.HP.cfg g2] ∧ g2.q = (Cf.dec b).1 ∧ g2.q.fit) := by
  refine E.calls_of (vs := [.slice A b.length c]) (H := []) Try.func12 Try.ntmps12 rfl rfl (E.HA.start w0) ?_
  refine E.CW.seq ?_
  refine E.CW.region ?_
  refine E.OW.alloc (in28.zr) rfl rfl rfl rfl rfl (fun B1 => ?_)
  refine E.OW.pure rfl rfl rfl (E.PV.assign rfl rfl) ?_
  refine E.OW.nil ?_
  refine E.then_n ?_
  refine E.CW.seq ?_
  refine E.CW.seq ?_
  refine E.CW.region ?_
  refine E.OW.pure rfl rfl rfl (E.PV.move rfl rfl) ?_
  refine E.OW.pure rfl rfl rfl (E.PV.len Try.underlying22 rfl rfl) ?_
  refine E.OW.pure rfl rfl rfl (E.PV.gtr rfl rfl rfl) ?_
  refine E.OW.nil ?_
  refine E.then_n ?_
  refine E.CW.cond rfl (fun hc => ?_) (fun hc => ?_)
  · simp only [E.b0, E.b1, E.b2, E.b3, E.b4, E.b5, E.b6, E.b7, E.b8, E.b9, E.b10, E.b11, E.b12, E.b13, E.b14, E.b15, E.b16, E.b17, E.b18, E.b19, E.b20, reduceCtorEq] at hc
    all_goals (
      refine E.CW.seq ?_
      refine E.CW.cfgz ?_
      refine E.CW.region ?_
      refine E.OW.pure rfl rfl rfl (E.PV.build (ps := []) rfl rfl (fun w => bld28_ w)) ?_
      refine E.OW.store (i := 1) in28.size rfl rfl rfl rfl rfl rfl rfl rfl rfl ?_
      refine E.OW.pure rfl rfl rfl (E.PV.assign rfl rfl) ?_
      refine E.OW.nil ?_
      refine E.then_n ?_
      refine E.CW.ret ?_
      refine E.then_ret ?_
      refine E.KR.rv2 [1] Try.results12 (E.rv.cell is28 rfl (E.sli 0 rfl) rfl) rfl rfl ?_
      rw [Cf.dec_big (by omega)]
      exact ⟨E.Cfg.z, rfl, rfl, rfl, Cf.zero_fit⟩)
  · simp only [E.b0, E.b1, E.b2, E.b3, E.b4, E.b5, E.b6, E.b7, E.b8, E.b9, E.b10, E.b11, E.b12, E.b13, E.b14, E.b15, E.b16, E.b17, E.b18, E.b19, E.b20, reduceCtorEq] at hc
    all_goals (
      refine E.CW.skip ?_
      refine E.then_n ?_
      refine E.CW.seq ?_
      refine E.CW.region ?_
      refine E.OW.pure rfl rfl rfl (E.PV.move rfl rfl) ?_
      refine E.OW.pure rfl rfl rfl (E.PV.build (ps := [(0, .tmp 11)]) rfl rfl (fun w => bld77_0 _ _ _ w)) ?_
      refine E.OW.box rfl rfl rfl rfl rfl rfl (fun B2 => ?_)
      refine E.OW.pure rfl rfl rfl (E.PV.assign rfl rfl) ?_
      refine E.OW.nil ?_
      refine E.then_n ?_
      refine E.CW.seq ?_
      have h0p : (0 : Nat) ≤ b.length := Nat.zero_le _
      have h0e : (0 : Int) = 0 ∨ (0 : Int) = 10 := .inl rfl
      refine E.CW.chunk 0 (E.HP.blk B2 77 [.slice A b.length c, .int .i64 (0 : Nat), .int .i64 0]) rfl rfl ?_
      refine E.CW.region ?_
      refine E.OW.alloc (in28.zr) rfl rfl rfl rfl rfl (fun B3 => ?_)
      refine E.OW.nil ?_
      refine E.then_n ?_
      refine E.CW.seq ?_
      refine E.CW.region ?_
      refine E.OW.pure rfl rfl rfl (E.PV.move rfl rfl) ?_
      (refine E.OW.callM nm32 rfl rfl rfl rfl rfl rfl _ 1 rfl (fun w S hw hs hb hc => nxt_ok _ _ _ _ _ _ S w hs (fun k hk => (hb k hk).1) ?_ ?_ ?_ ?_ ?_) ?_; (focus (assumption)); (focus (omega)); (focus (assumption)); (focus (assumption)); (focus (refine hw.rdM ?_ hb; assumption)); rintro _ _ ⟨xN, pN, eN, rfl, rfl, hpN, heN, hxN, hrN⟩)
      refine E.OW.pure rfl rfl rfl (E.PV.move rfl rfl) ?_
      (refine E.OW.callM nm32 rfl rfl rfl rfl rfl rfl _ 0 rfl (fun w S hw hs hb hc => nxt_ok _ _ _ _ _ _ S w hs (fun k hk => (hb k hk).1) ?_ ?_ ?_ ?_ ?_) ?_; (focus (assumption)); (focus (omega)); (focus (assumption)); (focus (assumption)); (focus (refine hw.rdM ?_ hb; assumption)); rintro _ _ ⟨xN2, pN2, eN2, rfl, rfl, hpN2, heN2, hxN2, hrN2⟩)
      refine E.OW.pure rfl rfl rfl (E.PV.fieldAddr fa28_0 rfl rfl) ?_
      refine E.OW.pure rfl rfl rfl (E.PV.fieldAddr fa24_0 rfl rfl) ?_
      refine E.OW.store (i := 1) in3.size rfl rfl rfl rfl rfl rfl rfl rfl rfl ?_
      refine E.OW.pure rfl rfl rfl (E.PV.fieldAddr fa28_0 rfl rfl) ?_
      refine E.OW.pure rfl rfl rfl (E.PV.fieldAddr fa24_1 rfl rfl) ?_
      refine E.OW.store (i := 0) in3.size rfl rfl rfl rfl rfl rfl rfl rfl rfl ?_
      refine E.OW.nil ?_
      refine E.then_n ?_
      refine E.CW.seq ?_
      have hmul : xN * xN2 ≤ 255 * 255 := Nat.mul_le_mul (by omega) (by omega)
      have hmu2 : ((xN * xN2 : Nat) : Int) = (xN : Int) * (xN2 : Int) := Int.natCast_mul _ _
      refine E.CW.region ?_
      refine E.OW.pure rfl rfl rfl (E.PV.move rfl rfl) ?_
      refine E.OW.pure rfl rfl rfl (E.PV.fieldAddr fa28_0 rfl rfl) ?_
      refine E.OW.pure rfl rfl rfl (E.PV.fieldAddr fa24_0 rfl rfl) ?_
      refine E.OW.pure rfl rfl rfl (E.PV.load (i := 0) na3 rfl rfl rfl rfl) ?_
      refine E.OW.pure rfl rfl rfl (E.PV.fieldAddr fa28_0 rfl rfl) ?_
      refine E.OW.pure rfl rfl rfl (E.PV.fieldAddr fa24_1 rfl rfl) ?_
      refine E.OW.pure rfl rfl rfl (E.PV.load (i := 0) na3 rfl rfl rfl rfl) ?_
      refine E.OW.pure rfl rfl rfl (E.PV.mul_i64 rfl rfl rfl ?_) ?_; (focus (omega))
      refine E.OW.put 29 (.int .i64 ((xN * xN2 : Nat) : Int)) rfl (by rw [hmu2]) ?_
      (refine E.OW.callM nm33 rfl rfl rfl rfl rfl rfl _ 1 rfl (fun w S hw hs hb hc => byr_ok _ _ _ _ _ _ (xN * xN2) S w ?_ hs (fun k hk => (hb k hk).1) ?_ ?_ ?_ ?_ ?_) ?_; (focus (omega)); (focus (assumption)); (focus (omega)); (focus (assumption)); (focus (assumption)); (focus (refine hw.rdM ?_ hb; assumption)); rintro _ _ ⟨AB, cB, LB, pB, eB, rfl, rfl, hpB, heB, hLB, hrB⟩)
      refine E.OW.pure rfl rfl rfl (E.PV.fieldAddr fa28_0 rfl rfl) ?_
      refine E.OW.pure rfl rfl rfl (E.PV.fieldAddr fa24_2 rfl rfl) ?_
      refine E.OW.store (i := 2) in22.size rfl rfl rfl rfl rfl rfl rfl rfl rfl ?_
      refine E.OW.nil ?_
      refine E.then_n ?_
      refine E.CW.seq ?_
      refine E.CW.region ?_
      refine E.OW.pure rfl rfl rfl (E.PV.move rfl rfl) ?_
      refine E.OW.pure rfl rfl rfl (E.PV.move rfl rfl) ?_
      (refine E.OW.callM nm32 rfl rfl rfl rfl rfl rfl _ 2 rfl (fun w S hw hs hb hc => nxt_ok _ _ _ _ _ _ S w hs (fun k hk => (hb k hk).1) ?_ ?_ ?_ ?_ ?_) ?_; (focus (assumption)); (focus (omega)); (focus (assumption)); (focus (assumption)); (focus (refine hw.rdM ?_ hb; assumption)); rintro _ _ ⟨xN3, pN3, eN3, rfl, rfl, hpN3, heN3, hxN3, hrN3⟩)
      (refine E.OW.callM nm33 rfl rfl rfl rfl rfl rfl _ 0 rfl (fun w S hw hs hb hc => byr_ok _ _ _ _ _ _ xN3 S w ?_ hs (fun k hk => (hb k hk).1) ?_ ?_ ?_ ?_ ?_) ?_; (focus (omega)); (focus (assumption)); (focus (omega)); (focus (assumption)); (focus (assumption)); (focus (refine hw.rdM ?_ hb; assumption)); rintro _ _ ⟨AB2, cB2, LB2, pB2, eB2, rfl, rfl, hpB2, heB2, hLB2, hrB2⟩)
      refine E.OW.pure rfl rfl rfl (E.PV.fieldAddr fa28_1 rfl rfl) ?_
      refine E.OW.store (i := 2) in22.size rfl rfl rfl rfl rfl rfl rfl rfl rfl ?_
      refine E.OW.nil ?_
      refine E.then_n ?_
      refine E.CW.seq ?_
      refine E.CW.region ?_
      refine E.OW.pure rfl rfl rfl (E.PV.move rfl rfl) ?_
      refine E.OW.pure rfl rfl rfl (E.PV.move rfl rfl) ?_
      (refine E.OW.callM nm32 rfl rfl rfl rfl rfl rfl _ 2 rfl (fun w S hw hs hb hc => nxt_ok _ _ _ _ _ _ S w hs (fun k hk => (hb k hk).1) ?_ ?_ ?_ ?_ ?_) ?_; (focus (assumption)); (focus (omega)); (focus (assumption)); (focus (assumption)); (focus (refine hw.rdM ?_ hb; assumption)); rintro _ _ ⟨xN4, pN4, eN4, rfl, rfl, hpN4, heN4, hxN4, hrN4⟩)
      refine E.OW.pure rfl rfl rfl (E.PV.move rfl rfl) ?_
      refine E.OW.pure rfl rfl rfl (E.PV.makeFunc (f := .func 35) (fs := [.tmp 41]) (cs := []) rfl rfl rfl) ?_
      (refine E.OW.callM nm34 rfl rfl rfl rfl rfl rfl _ 0 rfl (fun w S hw hs hb hc => tmsr_ok _ _ _ _ _ _ xN4 S w ?_ hs (fun k hk => (hb k hk).1) ?_ ?_ ?_ ?_ ?_) ?_; (focus (omega)); (focus (assumption)); (focus (omega)); (focus (assumption)); (focus (assumption)); (focus (refine hw.rdM ?_ hb; assumption)); rintro _ _ ⟨AT, cT, tt, pT, eT, rfl, rfl, hpT, heT, htl, hft, hrT⟩)
      refine E.OW.pure rfl rfl rfl (E.PV.fieldAddr fa28_2 rfl rfl) ?_
      refine E.OW.store (i := 3) in25.size rfl rfl rfl rfl rfl rfl rfl rfl rfl ?_
      refine E.OW.nil ?_
      refine E.then_n ?_
      refine E.CW.seq ?_
      refine E.CW.region ?_
      refine E.OW.pure rfl rfl rfl (E.PV.move rfl rfl) ?_
      (refine E.OW.callM nm36 rfl rfl rfl rfl rfl rfl _ 3 rfl (fun w S hw hs hb hc => num_ok _ _ _ _ _ _ 8 S w ?_ hs (fun k hk => (hb k hk).1) ?_ ?_ ?_ ?_ ?_) ?_; (focus (omega)); (focus (assumption)); (focus (omega)); (focus (assumption)); (focus (assumption)); (focus (refine hw.rdM ?_ hb; assumption)); rintro _ _ ⟨xM, pM, eM, rfl, rfl, hpM, heM, hxM, hrM⟩)
      refine E.OW.pure rfl rfl rfl (E.PV.fieldAddr fa28_3 rfl rfl) ?_
      refine E.OW.store (i := 1) in26.size rfl rfl rfl rfl rfl rfl rfl rfl rfl ?_
      refine E.OW.nil ?_
      refine E.then_n ?_
      refine E.CW.seq ?_
      refine E.CW.seq ?_
      have hrF := Cf.res_cf hrN hrN2 hrB hrN3 hrB2 hrN4 hrT hrM
      refine E.CW.region ?_
      refine E.OW.pure rfl rfl rfl (E.PV.move rfl rfl) ?_
      refine E.OW.pure rfl rfl rfl (E.PV.nilCheck rfl rfl) ?_
      refine E.OW.pure rfl rfl rfl (E.PV.fieldAddr fa77_2 rfl rfl) ?_
      refine E.OW.pure rfl rfl rfl (E.PV.load (i := 1) na31 rfl rfl rfl rfl) ?_
      refine E.OW.pure rfl rfl rfl (E.PV.neq rfl rfl rfl) ?_
      refine E.OW.nil ?_
      refine E.then_n ?_
      refine E.CW.cond rfl (fun hc => ?_) (fun hc => ?_)
      · simp only [E.b0, E.b1, E.b2, E.b3, E.b4, E.b5, E.b6, E.b7, E.b8, E.b9, E.b10, E.b11, E.b12, E.b13, E.b14, E.b15, E.b16, E.b17, E.b18, E.b19, E.b20, reduceCtorEq] at hc
        all_goals (
          refine E.CW.seq ?_
          refine E.CW.cfgz ?_
          refine E.CW.drawx mixed [2] rfl ?_
          all_goals (refine E.AW.first 0 rfl (by kernel_rfl) (by kernel_rfl) (by kernel_rfl) rfl rfl rfl (E.PV.build (ps := []) rfl rfl (fun w => bld28_ w)) ?_)
          all_goals (refine E.AW.first 1 rfl (by kernel_rfl) (by kernel_rfl) (by kernel_rfl) rfl rfl rfl (E.PV.move rfl rfl) ?_)
          all_goals (refine E.AW.first 2 rfl (by kernel_rfl) (by kernel_rfl) (by kernel_rfl) rfl rfl rfl (E.PV.nilCheck rfl rfl) ?_)
          all_goals (refine E.AW.first 3 rfl (by kernel_rfl) (by kernel_rfl) (by kernel_rfl) rfl rfl rfl (E.PV.fieldAddr fa77_2 rfl rfl) ?_)
          all_goals (refine E.AW.first 4 rfl (by kernel_rfl) (by kernel_rfl) (by kernel_rfl) rfl rfl rfl (E.PV.load (i := 0) na31 rfl rfl rfl rfl) ?_)
          all_goals (refine E.AW.one 5 (by kernel_rfl) rfl ?_)
          all_goals (refine E.OW.store (i := 7) in28.size rfl rfl rfl rfl rfl rfl rfl rfl rfl ?_)
          all_goals (first | (refine E.AW.nil [2] rfl ?_) | (refine E.AW.nil [3] rfl ?_) | (refine E.AW.nil [4] rfl ?_) | (refine E.AW.nil [5] rfl ?_) | (refine E.AW.nil [6] rfl ?_) | (refine E.AW.nil [7] rfl ?_) | (refine E.AW.nil [8] rfl ?_) | (refine E.AW.nil [1] rfl ?_) | (refine E.AW.nil [0] rfl ?_))
          all_goals (refine E.AW.first 6 rfl (by kernel_rfl) (by kernel_rfl) (by kernel_rfl) rfl rfl rfl (E.PV.assign rfl rfl) ?_)
          all_goals (refine E.AW.done (by kernel_rfl) ?_)
          all_goals (
            skip
            refine E.then_n ?_
            refine E.CW.ret ?_
            refine E.then_ret ?_
            refine E.KR.rv2 [1] Try.results12 (E.rv.cell is28 rfl (E.sli 0 rfl) rfl) rfl rfl ?_
            obtain rfl : eM = 10 := by omega
            rw [Cf.dec_none (by omega) (by omega) hrF]
            exact ⟨E.Cfg.z, rfl, rfl, rfl, Cf.zero_fit⟩))
      · simp only [E.b0, E.b1, E.b2, E.b3, E.b4, E.b5, E.b6, E.b7, E.b8, E.b9, E.b10, E.b11, E.b12, E.b13, E.b14, E.b15, E.b16, E.b17, E.b18, E.b19, E.b20, reduceCtorEq] at hc
        all_goals (
          refine E.CW.skip ?_
          refine E.then_n ?_
          refine E.CW.seq ?_
          refine E.CW.seq ?_
          refine E.CW.region ?_
          refine E.OW.pure rfl rfl rfl (E.PV.move rfl rfl) ?_
          refine E.OW.pure rfl rfl rfl (E.PV.nilCheck rfl rfl) ?_
          refine E.OW.pure rfl rfl rfl (E.PV.fieldAddr fa77_1 rfl rfl) ?_
          refine E.OW.pure rfl rfl rfl (E.PV.load (i := 1) na3 rfl rfl rfl rfl) ?_
          refine E.OW.pure rfl rfl rfl (E.PV.move rfl rfl) ?_
          refine E.OW.pure rfl rfl rfl (E.PV.len Try.underlying22 rfl rfl) ?_
          refine E.OW.pure rfl rfl rfl (E.PV.lss rfl rfl rfl) ?_
          refine E.OW.nil ?_
          refine E.then_n ?_
          refine E.CW.cond rfl (fun hc => ?_) (fun hc => ?_)
          · simp only [E.b0, E.b1, E.b2, E.b3, E.b4, E.b5, E.b6, E.b7, E.b8, E.b9, E.b10, E.b11, E.b12, E.b13, E.b14, E.b15, E.b16, E.b17, E.b18, E.b19, E.b20, reduceCtorEq] at hc
            all_goals (
              refine E.CW.seq ?_
              refine E.CW.cfgz ?_
              refine E.CW.region ?_
              refine E.OW.pure rfl rfl rfl (E.PV.build (ps := []) rfl rfl (fun w => bld28_ w)) ?_
              refine E.OW.store (i := 7) in28.size rfl rfl rfl rfl rfl rfl rfl rfl rfl ?_
              refine E.OW.pure rfl rfl rfl (E.PV.assign rfl rfl) ?_
              refine E.OW.nil ?_
              refine E.then_n ?_
              refine E.CW.ret ?_
              refine E.then_ret ?_
              refine E.KR.rv2 [1] Try.results12 (E.rv.cell is28 rfl (E.sli 0 rfl) rfl) rfl rfl ?_
              obtain rfl : eM = 0 := by omega
              rw [Cf.dec_more (by omega) hrF (by omega)]
              exact ⟨E.Cfg.z, rfl, rfl, rfl, Cf.zero_fit⟩)
          · simp only [E.b0, E.b1, E.b2, E.b3, E.b4, E.b5, E.b6, E.b7, E.b8, E.b9, E.b10, E.b11, E.b12, E.b13, E.b14, E.b15, E.b16, E.b17, E.b18, E.b19, E.b20, reduceCtorEq] at hc
            all_goals (
              refine E.CW.skip ?_
              refine E.then_n ?_
              refine E.CW.seq ?_
              refine E.CW.seq ?_
              obtain rfl : eM = 0 := by omega
              have hgf : E.Cfg.q (⟨xN, xN2, LB, LB2, tt, xM, AB, cB, AB2, cB2, AT, cT⟩ : E.Cfg) |>.fit := Cf.fit_read hxN hxN2 (show LB.length ≤ 100000 by omega) (show LB2.length ≤ 100000 by omega) (show (tt.map (·.q)).length ≤ 100000 by simp; omega) (Cf.fits_map hft) ⟨hxM.1, hxM.2.1⟩
              refine E.CW.gather [5, 4, 2, 2, 0, 0, 0] 4 rfl rfl ?_
              refine E.CW.chunk 0 (E.HP.cfg (⟨xN, xN2, LB, LB2, tt, xM, AB, cB, AB2, cB2, AT, cT⟩ : E.Cfg)) rfl rfl ?_
              refine E.CW.chunk 1 (E.HP.blk B3 28 (E.Cfg.cells (⟨xN, xN2, LB, LB2, tt, xM, AB, cB, AB2, cB2, AT, cT⟩ : E.Cfg))) rfl rfl ?_
              refine E.CW.sels [1, 0, 0, 0] rfl ?_
              refine E.CW.region ?_
              refine E.OW.pure rfl rfl rfl (E.PV.loads (i := 1) is28 rfl rfl rfl rfl) ?_
              (refine E.OW.call nm6 rfl rfl rfl rfl rfl rfl _ (fun w hw => Ck_ok _ w ?_ ?_) ?_; (focus (exact hw.rdcfg (i := 0) rfl)); (focus (assumption)); rintro _ _ ⟨rfl, rfl⟩)
              refine E.OW.pure rfl rfl rfl (E.PV.assign rfl rfl) ?_
              refine E.OW.nil ?_
              refine E.then_n ?_
              refine E.CW.seq ?_
              refine E.CW.region ?_
              refine E.OW.pure rfl rfl rfl (E.PV.move rfl rfl) ?_
              refine E.OW.pure rfl rfl rfl (E.PV.neq rfl rfl rfl) ?_
              refine E.OW.nil ?_
              refine E.then_n ?_
              refine E.CW.cond rfl (fun hc => ?_) (fun hc => ?_)
              · simp only [E.b0, E.b1, E.b2, E.b3, E.b4, E.b5, E.b6, E.b7, E.b8, E.b9, E.b10, E.b11, E.b12, E.b13, E.b14, E.b15, E.b16, E.b17, E.b18, E.b19, E.b20, reduceCtorEq] at hc
                all_goals (
                  refine E.CW.seq ?_
                  refine E.CW.cfgz ?_
                  refine E.CW.region ?_
                  refine E.OW.pure rfl rfl rfl (E.PV.build (ps := []) rfl rfl (fun w => bld28_ w)) ?_
                  refine E.OW.pure rfl rfl rfl (E.PV.move rfl rfl) ?_
                  refine E.OW.store (i := 4) in28.size rfl rfl rfl rfl rfl rfl rfl rfl rfl ?_
                  refine E.OW.pure rfl rfl rfl (E.PV.assign rfl rfl) ?_
                  refine E.OW.nil ?_
                  refine E.then_n ?_
                  refine E.CW.ret ?_
                  refine E.then_ret ?_
                  refine E.KR.rv2 [1] Try.results12 (E.rv.cell is28 rfl (E.sli 0 rfl) rfl) rfl rfl ?_
                  rw [Cf.dec_bad (by omega) hrF (by omega) (by assumption)]
                  exact ⟨E.Cfg.z, rfl, rfl, rfl, Cf.zero_fit⟩)
              · simp only [E.b0, E.b1, E.b2, E.b3, E.b4, E.b5, E.b6, E.b7, E.b8, E.b9, E.b10, E.b11, E.b12, E.b13, E.b14, E.b15, E.b16, E.b17, E.b18, E.b19, E.b20, reduceCtorEq] at hc
                all_goals (
                  refine E.CW.skip ?_
                  refine E.then_n ?_
                  refine E.CW.seq ?_
                  refine E.CW.region ?_
                  refine E.OW.pure rfl rfl rfl (E.PV.loads (i := 1) is28 rfl rfl rfl rfl) ?_
                  refine E.OW.store (i := 3) in28.size rfl rfl rfl rfl rfl rfl rfl rfl rfl ?_
                  refine E.OW.pure rfl rfl rfl (E.PV.assign rfl rfl) ?_
                  refine E.OW.nil ?_
                  refine E.then_n ?_
                  refine E.CW.ret ?_
                  refine E.KR.rv2 [1] Try.results12 (E.rv.cell is28 rfl (E.sli 0 rfl) rfl) rfl rfl ?_
                  rw [Cf.dec_ok (by omega) hrF (by omega) (by assumption)]
                  exact ⟨(⟨xN, xN2, LB, LB2, tt, xM, AB, cB, AB2, cB2, AT, cT⟩ : E.Cfg), rfl, rfl, rfl, hgf⟩))))
end Go.Proofs.Yteibcphdbkgcgaa
