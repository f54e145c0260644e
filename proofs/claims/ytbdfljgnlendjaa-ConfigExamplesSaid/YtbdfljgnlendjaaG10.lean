/- Walks (printed by gen.py). -/
import Derived.Test.YtbdfljgnlendjaaG9
import Derived.Test.YtbdfljgnlendjaaG7
namespace Go.Proofs.Ytbdfljgnlendjaa
open Go Go.RowKit
set_option linter.unusedSimpArgs false
set_option linter.unusedVariables false

set_option maxRecDepth 100000 in
theorem rDe_ok (A : Option Addr) (c : Nat) (b : List UInt8) (w0 : World) (hc8 : b.length ≤ c) (hl : b.length ≤ 140737488351232) (hX : E.Rd w0 (E.Old w0) A (E.u8s b)) :
    Calls Try.prog 42 #[.slice A b.length c] w0 (E.Post w0 (E.Old w0) fun v Hn => ∃ g2 : E.Cfg, v = .tuple #[g2.v, .int .i64 (Cf.dec b).2] ∧ Hn = [E.HP.cfg g2] ∧ g2.q = (Cf.dec b).1 ∧ g2.q.fit) := by
  refine E.calls_of (vs := [.slice A b.length c]) (H := []) Try.func42 Try.ntmps42 rfl rfl (E.HA.start w0) ?_
  refine E.CW.seq ?_
  refine E.CW.region ?_
  refine E.OW.alloc (in28.zr) rfl rfl rfl rfl rfl (fun B1 => ?_)
  refine E.OW.pure rfl rfl rfl (E.PV.assign rfl rfl) ?_
  refine E.OW.nil ?_
  refine E.then_n ?_
  refine E.CW.seq ?_
  refine E.CW.seq ?_
  refine E.CW.region ?_
  refine E.OW.pure rfl rfl rfl (E.PV.move rfl rfl) ?_
  refine E.OW.pure rfl rfl rfl (E.PV.len Try.underlying22 rfl rfl) ?_
  refine E.OW.pure rfl rfl rfl (E.PV.gtr rfl rfl rfl) ?_
  refine E.OW.nil ?_
  refine E.then_n ?_
  refine E.CW.cond rfl (fun hc => ?_) (fun hc => ?_)
  · simp only [E.b0, E.b1, E.b2, E.b3, E.b4, E.b5, E.b6, E.b7, E.b8, E.b9, E.b10, E.b11, E.b12, E.b13, E.b14, E.b15, E.b16, E.b17, E.b18, E.b19, E.b20, reduceCtorEq] at hc
    all_goals (
      refine E.CW.seq ?_
      refine E.CW.cfgz ?_
      refine E.CW.region ?_
      refine E.OW.pure rfl rfl rfl (E.PV.build (ps := []) rfl rfl (fun w => bld28_ w)) ?_
      refine E.OW.store (i := 1) in28.size rfl rfl rfl rfl rfl rfl rfl rfl rfl ?_
      refine E.OW.pure rfl rfl rfl (E.PV.assign rfl rfl) ?_
      refine E.OW.nil ?_
      refine E.then_n ?_
      refine E.CW.ret ?_
      refine E.then_ret ?_
      refine E.KR.rv2 [1] Try.results42 (E.rv.cell is28 rfl (E.sli 0 rfl) rfl) rfl rfl ?_
      rw [Cf.dec_big (by omega)]
      exact ⟨E.Cfg.z, rfl, rfl, rfl, Cf.zero_fit⟩)
  · simp only [E.b0, E.b1, E.b2, E.b3, E.b4, E.b5, E.b6, E.b7, E.b8, E.b9, E.b10, E.b11, E.b12, E.b13, E.b14, E.b15, E.b16, E.b17, E.b18, E.b19, E.b20, reduceCtorEq] at hc
    all_goals (
      refine E.CW.skip ?_
      refine E.then_n ?_
      refine E.CW.seq ?_
      refine E.CW.region ?_
      refine E.OW.pure rfl rfl rfl (E.PV.build (ps := []) rfl rfl (fun w => bld28_ w)) ?_
      refine E.OW.alloc (in28.zr) rfl rfl rfl rfl rfl (fun BG => ?_)
      refine E.OW.store (i := 0) in28.size rfl rfl rfl rfl rfl rfl rfl rfl rfl ?_
      refine E.OW.nil ?_
      refine E.then_n ?_
      refine E.CW.seq ?_
      refine E.CW.region ?_
      refine E.OW.pure rfl rfl rfl (E.PV.move rfl rfl) ?_
      refine E.OW.pure rfl rfl rfl (E.PV.build (ps := [(0, .tmp 17)]) rfl rfl (fun w => bld121_0 _ _ _ w)) ?_
      refine E.OW.alloc (in121.zr) rfl rfl rfl rfl rfl (fun BR => ?_)
      refine E.OW.store (i := 0) in121.size rfl rfl rfl rfl rfl rfl rfl rfl rfl ?_
      refine E.OW.nil ?_
      refine E.then_n ?_
      refine E.CW.seq ?_
      refine E.CW.region ?_
      refine E.OW.pure rfl rfl rfl (E.PV.loads (i := 0) is121 rfl rfl rfl rfl) ?_
      (refine E.OW.call nm88 rfl rfl rfl rfl rfl rfl _ (fun w hw => rnx_ok _ _ _ _ w ?_ ?_ ?_) ?_; (focus (assumption)); (focus (omega)); (focus (refine hw.rd ?_; assumption)); rintro _ _ ⟨xN1, AR1, c1, s1, sh1, rfl, rfl, hxN1, hc1, hl1, hSb1, hr1⟩)
      refine E.OW.pure rfl rfl rfl (E.PV.move rfl rfl) ?_
      refine E.OW.pure rfl rfl rfl (E.PV.extract rfl rfl rfl) ?_
      refine E.OW.pure rfl rfl rfl (E.PV.extract rfl rfl rfl) ?_
      refine E.OW.pure rfl rfl rfl (E.PV.fieldAddr fa28_0 rfl rfl) ?_
      refine E.OW.pure rfl rfl rfl (E.PV.fieldAddr fa24_0 rfl rfl) ?_
      refine E.OW.store (i := 1) in3.size rfl rfl rfl rfl rfl rfl rfl rfl rfl ?_
      refine E.OW.store (i := 1) in121.size rfl rfl rfl rfl rfl rfl rfl rfl rfl ?_
      refine E.OW.nil ?_
      refine E.then_n ?_
      refine E.CW.seq ?_
      have hX1 := hSb1 _ _ hX
      refine E.CW.region ?_
      refine E.OW.pure rfl rfl rfl (E.PV.loads (i := 0) is121 rfl rfl rfl rfl) ?_
      (refine E.OW.call nm88 rfl rfl rfl rfl rfl rfl _ (fun w hw => rnx_ok _ _ _ _ w ?_ ?_ ?_) ?_; (focus (assumption)); (focus (omega)); (focus (refine hw.rd ?_; assumption)); rintro _ _ ⟨xN2, AR2, c2, s2, sh2, rfl, rfl, hxN2, hc2, hl2, hSb2, hr2⟩)
      refine E.OW.pure rfl rfl rfl (E.PV.move rfl rfl) ?_
      refine E.OW.pure rfl rfl rfl (E.PV.extract rfl rfl rfl) ?_
      refine E.OW.pure rfl rfl rfl (E.PV.extract rfl rfl rfl) ?_
      refine E.OW.pure rfl rfl rfl (E.PV.fieldAddr fa28_0 rfl rfl) ?_
      refine E.OW.pure rfl rfl rfl (E.PV.fieldAddr fa24_1 rfl rfl) ?_
      refine E.OW.store (i := 1) in3.size rfl rfl rfl rfl rfl rfl rfl rfl rfl ?_
      refine E.OW.store (i := 1) in121.size rfl rfl rfl rfl rfl rfl rfl rfl rfl ?_
      refine E.OW.nil ?_
      refine E.then_n ?_
      refine E.CW.seq ?_
      have hX2 := hSb2 _ _ hX1
      have hmul : xN1 * xN2 ≤ 255 * 255 := Nat.mul_le_mul (by omega) (by omega)
      have hmu2 : ((xN1 * xN2 : Nat) : Int) = (xN1 : Int) * (xN2 : Int) := Int.natCast_mul _ _
      refine E.CW.region ?_
      refine E.OW.pure rfl rfl rfl (E.PV.loads (i := 0) is121 rfl rfl rfl rfl) ?_
      refine E.OW.pure rfl rfl rfl (E.PV.fieldAddr fa28_0 rfl rfl) ?_
      refine E.OW.pure rfl rfl rfl (E.PV.fieldAddr fa24_0 rfl rfl) ?_
      refine E.OW.pure rfl rfl rfl (E.PV.load (i := 1) na3 rfl rfl rfl rfl) ?_
      refine E.OW.pure rfl rfl rfl (E.PV.fieldAddr fa28_0 rfl rfl) ?_
      refine E.OW.pure rfl rfl rfl (E.PV.fieldAddr fa24_1 rfl rfl) ?_
      refine E.OW.pure rfl rfl rfl (E.PV.load (i := 1) na3 rfl rfl rfl rfl) ?_
      refine E.OW.pure rfl rfl rfl (E.PV.mul_i64 rfl rfl rfl ?_) ?_; (focus (omega))
      refine E.OW.put 41 (.int .i64 ((xN1 * xN2 : Nat) : Int)) rfl (by rw [hmu2]) ?_
      (refine E.OW.call nm89 rfl rfl rfl rfl rfl rfl _ (fun w hw => rsv_ok _ _ _ _ (xN1 * xN2) w ?_ ?_ ?_ ?_) ?_; (focus (omega)); (focus (assumption)); (focus (omega)); (focus (refine hw.rd ?_; assumption)); rintro _ _ ⟨AS1, cS1, LS1, AR3, c3, s3, sh3, rfl, rfl, hLS1, hc3, hl3, hSb3, hr3⟩)
      refine E.OW.pure rfl rfl rfl (E.PV.move rfl rfl) ?_
      refine E.OW.pure rfl rfl rfl (E.PV.extract rfl rfl rfl) ?_
      refine E.OW.pure rfl rfl rfl (E.PV.extract rfl rfl rfl) ?_
      refine E.OW.pure rfl rfl rfl (E.PV.fieldAddr fa28_0 rfl rfl) ?_
      refine E.OW.pure rfl rfl rfl (E.PV.fieldAddr fa24_2 rfl rfl) ?_
      refine E.OW.store (i := 2) in22.size rfl rfl rfl rfl rfl rfl rfl rfl rfl ?_
      refine E.OW.store (i := 2) in121.size rfl rfl rfl rfl rfl rfl rfl rfl rfl ?_
      refine E.OW.nil ?_
      refine E.then_n ?_
      refine E.CW.seq ?_
      have hX3 := hSb3 _ _ hX2
      refine E.CW.region ?_
      refine E.OW.pure rfl rfl rfl (E.PV.loads (i := 0) is121 rfl rfl rfl rfl) ?_
      (refine E.OW.call nm88 rfl rfl rfl rfl rfl rfl _ (fun w hw => rnx_ok _ _ _ _ w ?_ ?_ ?_) ?_; (focus (assumption)); (focus (omega)); (focus (refine hw.rd ?_; assumption)); rintro _ _ ⟨xN4, AR4, c4, s4, sh4, rfl, rfl, hxN4, hc4, hl4, hSb4, hr4⟩)
      refine E.OW.pure rfl rfl rfl (E.PV.move rfl rfl) ?_
      refine E.OW.pure rfl rfl rfl (E.PV.extract rfl rfl rfl) ?_
      refine E.OW.pure rfl rfl rfl (E.PV.extract rfl rfl rfl) ?_
      refine E.OW.pure rfl rfl rfl (E.PV.assign rfl rfl) ?_
      refine E.OW.store (i := 0) in121.size rfl rfl rfl rfl rfl rfl rfl rfl rfl ?_
      refine E.OW.nil ?_
      refine E.then_n ?_
      refine E.CW.seq ?_
      have hX4 := hSb4 _ _ hX3
      refine E.CW.region ?_
      refine E.OW.pure rfl rfl rfl (E.PV.loads (i := 0) is121 rfl rfl rfl rfl) ?_
      refine E.OW.pure rfl rfl rfl (E.PV.move rfl rfl) ?_
      (refine E.OW.call nm89 rfl rfl rfl rfl rfl rfl _ (fun w hw => rsv_ok _ _ _ _ xN4 w ?_ ?_ ?_ ?_) ?_; (focus (omega)); (focus (assumption)); (focus (omega)); (focus (refine hw.rd ?_; assumption)); rintro _ _ ⟨AS2, cS2, LS2, AR5, c5, s5, sh5, rfl, rfl, hLS2, hc5, hl5, hSb5, hr5⟩)
      refine E.OW.pure rfl rfl rfl (E.PV.move rfl rfl) ?_
      refine E.OW.pure rfl rfl rfl (E.PV.extract rfl rfl rfl) ?_
      refine E.OW.pure rfl rfl rfl (E.PV.extract rfl rfl rfl) ?_
      refine E.OW.pure rfl rfl rfl (E.PV.fieldAddr fa28_1 rfl rfl) ?_
      refine E.OW.store (i := 2) in22.size rfl rfl rfl rfl rfl rfl rfl rfl rfl ?_
      refine E.OW.store (i := 2) in121.size rfl rfl rfl rfl rfl rfl rfl rfl rfl ?_
      refine E.OW.nil ?_
      refine E.then_n ?_
      refine E.CW.seq ?_
      have hX5 := hSb5 _ _ hX4
      refine E.CW.region ?_
      refine E.OW.pure rfl rfl rfl (E.PV.loads (i := 0) is121 rfl rfl rfl rfl) ?_
      (refine E.OW.call nm88 rfl rfl rfl rfl rfl rfl _ (fun w hw => rnx_ok _ _ _ _ w ?_ ?_ ?_) ?_; (focus (assumption)); (focus (omega)); (focus (refine hw.rd ?_; assumption)); rintro _ _ ⟨xN6, AR6, c6, s6, sh6, rfl, rfl, hxN6, hc6, hl6, hSb6, hr6⟩)
      refine E.OW.pure rfl rfl rfl (E.PV.move rfl rfl) ?_
      refine E.OW.pure rfl rfl rfl (E.PV.extract rfl rfl rfl) ?_
      refine E.OW.pure rfl rfl rfl (E.PV.extract rfl rfl rfl) ?_
      refine E.OW.pure rfl rfl rfl (E.PV.assign rfl rfl) ?_
      refine E.OW.store (i := 0) in121.size rfl rfl rfl rfl rfl rfl rfl rfl rfl ?_
      refine E.OW.nil ?_
      refine E.then_n ?_
      refine E.CW.seq ?_
      refine E.CW.seq ?_
      have hX6 := hSb6 _ _ hX5
      refine E.CW.nilrow 33 8 ?_
      refine E.CW.tmsnil ?_
      refine E.CW.region ?_
      refine E.OW.pure rfl rfl rfl (E.PV.assign rfl rfl) ?_
      refine E.OW.nil ?_
      refine E.then_n ?_
      refine E.CW.block ?_
      refine E.CW.loopk [2, 4, 5, 6] 4 rfl rfl (fun mm mods Hm => ∃ k : Nat, ∃ D : Option Addr, ∃ q : Nat, ∃ tt : List E.Tm, ∃ AR7 : Option Addr, ∃ c7 : Nat, ∃ s7 : List UInt8, ∃ sh7 : Bool, mm = xN6 - k ∧ mods = [(7, .int .i64 k)] ∧ Hm = [E.HP.tms tt, E.HP.row 33 8 D tt.length q (E.tms tt), E.HP.blk BR 121 [.slice AR7 s7.length c7, .bool sh7], E.HP.blk BG 28 [.int .i64 (xN1 : Nat), .int .i64 (xN2 : Nat), .slice AS1 LS1.length cS1, .slice AS2 LS2.length cS2, .slice D tt.length q, .int .u64 0]] ∧ (k ≤ xN6 ∧ tt.length ≤ k ∧ (∀ m ∈ tt, m.q.fit) ∧ s7.length ≤ c7 ∧ s7.length ≤ b.length ∧ E.Rd w0 (E.Old w0) AR7 (E.u8s s7) ∧ Cf.Res (Cf.tmsP k) (Cf.st2 sh6 s6) (tt.map (·.q)) (Cf.st2 sh7 s7))) (xN6) ?_ ?_
      · exact ⟨[(7, _)], (by repeat (first | exact E.cov_nil | refine ⟨rfl, ?_⟩)), 0, none, 0, [], AR6, c6, s6, sh6, rfl, rfl, rfl, by omega, by simp, (fun m hm => by cases hm), hc6, by omega, hX6, Cf.res_tms0 _⟩
      · rintro _ _ _ ⟨k, D, q, tt, AR7, c7, s7, sh7, rfl, rfl, rfl, hk, htl, hft, hc7, hl7, hX7, hr7⟩
        refine E.CW.seq ?_
        refine E.CW.seq ?_
        refine E.CW.region ?_
        refine E.OW.pure rfl rfl rfl (E.PV.move rfl rfl) ?_
        refine E.OW.pure rfl rfl rfl (E.PV.move rfl rfl) ?_
        refine E.OW.pure rfl rfl rfl (E.PV.lss rfl rfl rfl) ?_
        refine E.OW.pure rfl rfl rfl (E.PV.move rfl rfl) ?_
        all_goals (refine E.OW.split 67 rfl (fun hc => ?_) (fun hc => ?_) <;> (try simp only [E.b0, E.b1, E.b2, E.b3, E.b4, E.b5, E.b6, E.b7, E.b8, E.b9, E.b10, E.b11, E.b12, E.b13, E.b14, E.b15, E.b16, E.b17, E.b18, E.b19, E.b20, reduceCtorEq] at hc) <;> (try (exfalso; first | assumption | contradiction | omega)))
        all_goals (first | (refine E.OW.off rfl rfl rfl ?_) | (refine E.OW.pure rfl rfl rfl (E.PV.fieldAddr fa121_1 rfl rfl) ?_))
        all_goals (first | (refine E.OW.off rfl rfl rfl ?_) | (refine E.OW.pure rfl rfl rfl (E.PV.load (i := 2) na4 rfl rfl rfl rfl) ?_))
        all_goals (first | (refine E.OW.off rfl rfl rfl ?_) | (refine E.OW.pure rfl rfl rfl (E.PV.not rfl rfl) ?_))
        all_goals (first | (refine E.OW.pure rfl rfl rfl (E.PV.pick_t rfl rfl rfl) ?_) | (refine E.OW.pure rfl rfl rfl (E.PV.pick_f rfl rfl rfl) ?_))
        all_goals (
          refine E.OW.nil ?_
          refine E.then_n ?_
          refine E.CW.cond rfl (fun hc => ?_) (fun hc => ?_)
          · first | ((cases hc; done)) | (simp only [E.b0, E.b1, E.b2, E.b3, E.b4, E.b5, E.b6, E.b7, E.b8, E.b9, E.b10, E.b11, E.b12, E.b13, E.b14, E.b15, E.b16, E.b17, E.b18, E.b19, E.b20, reduceCtorEq] at hc)
            all_goals (
              refine E.CW.skip ?_
              refine E.then_n ?_
              refine E.CW.seq ?_
              refine E.CW.block ?_
              refine E.CW.seq ?_
              refine E.CW.region ?_
              refine E.OW.pure rfl rfl rfl (E.PV.build (ps := []) rfl rfl (fun w => bld33_ w)) ?_
              refine E.OW.alloc (in33.zr) rfl rfl rfl rfl rfl (fun BT => ?_)
              refine E.OW.store (i := 0) in33.size rfl rfl rfl rfl rfl rfl rfl rfl rfl ?_
              refine E.OW.nil ?_
              refine E.then_n ?_
              refine E.CW.seq ?_
              refine E.CW.region ?_
              refine E.OW.pure rfl rfl rfl (E.PV.loads (i := 3) is121 rfl rfl rfl rfl) ?_
              (refine E.OW.call nm90 rfl rfl rfl rfl rfl rfl _ (fun w hw => rct_ok _ _ _ _ w ?_ ?_ ?_) ?_; (focus (assumption)); (focus (omega)); (focus (refine hw.rd ?_; assumption)); rintro _ _ ⟨AI1, cI1, LI1, AR8, c8, s8, sh8, rfl, rfl, hLI1, hc8, hl8, hSb8, hr8⟩)
              refine E.OW.pure rfl rfl rfl (E.PV.move rfl rfl) ?_
              refine E.OW.pure rfl rfl rfl (E.PV.extract rfl rfl rfl) ?_
              refine E.OW.pure rfl rfl rfl (E.PV.extract rfl rfl rfl) ?_
              refine E.OW.pure rfl rfl rfl (E.PV.fieldAddr fa33_0 rfl rfl) ?_
              refine E.OW.store (i := 1) in31.size rfl rfl rfl rfl rfl rfl rfl rfl rfl ?_
              refine E.OW.store (i := 4) in121.size rfl rfl rfl rfl rfl rfl rfl rfl rfl ?_
              refine E.OW.nil ?_
              refine E.then_n ?_
              refine E.CW.cut [2, 4, 5, 6, 7, 8] 3 rfl rfl (fun mods Hm => ∃ mN : E.Tm, ∃ AR16 : Option Addr, ∃ c16 : Nat, ∃ s16 : List UInt8, ∃ sh16 : Bool, mods = [] ∧ Hm = [E.HP.tm mN, E.HP.blk BT 33 mN.cells, E.HP.blk BR 121 [.slice AR16 s16.length c16, .bool sh16]] ∧ (mN.q.fit ∧ s16.length ≤ c16 ∧ s16.length ≤ b.length ∧ E.Rd w0 (E.Old w0) AR16 (E.u8s s16) ∧ Cf.Res Cf.tmP (Cf.st2 sh7 s7) mN.q (Cf.st2 sh16 s16))) ?_ ?_
              · skip
                refine E.CW.seq ?_
                have hX8 := hSb8 _ _ hX7
                refine E.CW.nilrow 3 1 ?_
                refine E.CW.nilrow 3 1 ?_
                refine E.CW.gather [4, 0, 0, 0, 0, 0, 0, 0, 0, 0, 0] 3 rfl rfl ?_
                refine E.CW.region ?_
                refine E.OW.pure rfl rfl rfl (E.PV.fieldAddr fa33_0 rfl rfl) ?_
                refine E.OW.pure rfl rfl rfl (E.PV.load (i := 2) na31 rfl rfl rfl rfl) ?_
                refine E.OW.pure rfl rfl rfl (E.PV.len Try.underlying31 rfl rfl) ?_
                refine E.OW.pure rfl rfl rfl (E.PV.gtr rfl rfl rfl) ?_
                refine E.OW.nil ?_
                refine E.then_n ?_
                refine E.CW.cond rfl (fun hc => ?_) (fun hc => ?_)
                · simp only [E.b0, E.b1, E.b2, E.b3, E.b4, E.b5, E.b6, E.b7, E.b8, E.b9, E.b10, E.b11, E.b12, E.b13, E.b14, E.b15, E.b16, E.b17, E.b18, E.b19, E.b20, reduceCtorEq] at hc
                  all_goals (
                    refine E.CW.seq ?_
                    refine E.CW.open 0 rfl ?_
                    refine E.CW.region ?_
                    refine E.OW.pure rfl rfl rfl (E.PV.loads (i := 3) is121 rfl rfl rfl rfl) ?_
                    (refine E.OW.call nm90 rfl rfl rfl rfl rfl rfl _ (fun w hw => rct_ok _ _ _ _ w ?_ ?_ ?_) ?_; (focus (assumption)); (focus (omega)); (focus (refine hw.rd ?_; assumption)); rintro _ _ ⟨AI2, cI2, LI2, AR9, c9, s9, sh9, rfl, rfl, hLI2, hc9, hl9, hSb9, hr9⟩)
                    refine E.OW.pure rfl rfl rfl (E.PV.move rfl rfl) ?_
                    refine E.OW.pure rfl rfl rfl (E.PV.extract rfl rfl rfl) ?_
                    refine E.OW.pure rfl rfl rfl (E.PV.extract rfl rfl rfl) ?_
                    refine E.OW.pure rfl rfl rfl (E.PV.fieldAddr fa33_1 rfl rfl) ?_
                    refine E.OW.store (i := 5) in31.size rfl rfl rfl rfl rfl rfl rfl rfl rfl ?_
                    refine E.OW.store (i := 5) in121.size rfl rfl rfl rfl rfl rfl rfl rfl rfl ?_
                    refine E.OW.nil ?_
                    refine E.then_n ?_
                    refine E.CW.seq ?_
                    have hX9 := hSb9 _ _ hX8
                    refine E.CW.region ?_
                    refine E.OW.pure rfl rfl rfl (E.PV.loads (i := 0) is121 rfl rfl rfl rfl) ?_
                    (refine E.OW.call nm90 rfl rfl rfl rfl rfl rfl _ (fun w hw => rct_ok _ _ _ _ w ?_ ?_ ?_) ?_; (focus (assumption)); (focus (omega)); (focus (refine hw.rd ?_; assumption)); rintro _ _ ⟨AI3, cI3, LI3, AR10, c10, s10, sh10, rfl, rfl, hLI3, hc10, hl10, hSb10, hr10⟩)
                    refine E.OW.pure rfl rfl rfl (E.PV.move rfl rfl) ?_
                    refine E.OW.pure rfl rfl rfl (E.PV.extract rfl rfl rfl) ?_
                    refine E.OW.pure rfl rfl rfl (E.PV.extract rfl rfl rfl) ?_
                    refine E.OW.pure rfl rfl rfl (E.PV.fieldAddr fa33_2 rfl rfl) ?_
                    refine E.OW.store (i := 2) in31.size rfl rfl rfl rfl rfl rfl rfl rfl rfl ?_
                    refine E.OW.store (i := 2) in121.size rfl rfl rfl rfl rfl rfl rfl rfl rfl ?_
                    refine E.OW.nil ?_
                    refine E.then_n ?_
                    refine E.CW.seq ?_
                    have hX10 := hSb10 _ _ hX9
                    refine E.CW.region ?_
                    refine E.OW.pure rfl rfl rfl (E.PV.loads (i := 0) is121 rfl rfl rfl rfl) ?_
                    (refine E.OW.call nm88 rfl rfl rfl rfl rfl rfl _ (fun w hw => rnx_ok _ _ _ _ w ?_ ?_ ?_) ?_; (focus (assumption)); (focus (omega)); (focus (refine hw.rd ?_; assumption)); rintro _ _ ⟨xN11, AR11, c11, s11, sh11, rfl, rfl, hxN11, hc11, hl11, hSb11, hr11⟩)
                    refine E.OW.pure rfl rfl rfl (E.PV.move rfl rfl) ?_
                    refine E.OW.pure rfl rfl rfl (E.PV.extract rfl rfl rfl) ?_
                    refine E.OW.pure rfl rfl rfl (E.PV.extract rfl rfl rfl) ?_
                    refine E.OW.pure rfl rfl rfl (E.PV.fieldAddr fa33_3 rfl rfl) ?_
                    refine E.OW.store (i := 1) in3.size rfl rfl rfl rfl rfl rfl rfl rfl rfl ?_
                    refine E.OW.store (i := 1) in121.size rfl rfl rfl rfl rfl rfl rfl rfl rfl ?_
                    refine E.OW.nil ?_
                    refine E.then_n ?_
                    refine E.CW.seq ?_
                    have hX11 := hSb11 _ _ hX10
                    refine E.CW.region ?_
                    refine E.OW.pure rfl rfl rfl (E.PV.loads (i := 0) is121 rfl rfl rfl rfl) ?_
                    (refine E.OW.call nm88 rfl rfl rfl rfl rfl rfl _ (fun w hw => rnx_ok _ _ _ _ w ?_ ?_ ?_) ?_; (focus (assumption)); (focus (omega)); (focus (refine hw.rd ?_; assumption)); rintro _ _ ⟨xN12, AR12, c12, s12, sh12, rfl, rfl, hxN12, hc12, hl12, hSb12, hr12⟩)
                    refine E.OW.pure rfl rfl rfl (E.PV.move rfl rfl) ?_
                    refine E.OW.pure rfl rfl rfl (E.PV.extract rfl rfl rfl) ?_
                    refine E.OW.pure rfl rfl rfl (E.PV.extract rfl rfl rfl) ?_
                    refine E.OW.pure rfl rfl rfl (E.PV.fieldAddr fa33_4 rfl rfl) ?_
                    refine E.OW.store (i := 1) in3.size rfl rfl rfl rfl rfl rfl rfl rfl rfl ?_
                    refine E.OW.store (i := 1) in121.size rfl rfl rfl rfl rfl rfl rfl rfl rfl ?_
                    refine E.OW.nil ?_
                    refine E.then_n ?_
                    refine E.CW.seq ?_
                    have hX12 := hSb12 _ _ hX11
                    refine E.CW.region ?_
                    refine E.OW.pure rfl rfl rfl (E.PV.loads (i := 0) is121 rfl rfl rfl rfl) ?_
                    (refine E.OW.call nm88 rfl rfl rfl rfl rfl rfl _ (fun w hw => rnx_ok _ _ _ _ w ?_ ?_ ?_) ?_; (focus (assumption)); (focus (omega)); (focus (refine hw.rd ?_; assumption)); rintro _ _ ⟨xN13, AR13, c13, s13, sh13, rfl, rfl, hxN13, hc13, hl13, hSb13, hr13⟩)
                    refine E.OW.pure rfl rfl rfl (E.PV.move rfl rfl) ?_
                    refine E.OW.pure rfl rfl rfl (E.PV.extract rfl rfl rfl) ?_
                    refine E.OW.pure rfl rfl rfl (E.PV.extract rfl rfl rfl) ?_
                    refine E.OW.pure rfl rfl rfl (E.PV.fieldAddr fa33_5 rfl rfl) ?_
                    refine E.OW.store (i := 1) in3.size rfl rfl rfl rfl rfl rfl rfl rfl rfl ?_
                    refine E.OW.store (i := 1) in121.size rfl rfl rfl rfl rfl rfl rfl rfl rfl ?_
                    refine E.OW.nil ?_
                    refine E.then_n ?_
                    refine E.CW.seq ?_
                    have hX13 := hSb13 _ _ hX12
                    refine E.CW.region ?_
                    refine E.OW.pure rfl rfl rfl (E.PV.loads (i := 0) is121 rfl rfl rfl rfl) ?_
                    (refine E.OW.call nm88 rfl rfl rfl rfl rfl rfl _ (fun w hw => rnx_ok _ _ _ _ w ?_ ?_ ?_) ?_; (focus (assumption)); (focus (omega)); (focus (refine hw.rd ?_; assumption)); rintro _ _ ⟨xN14, AR14, c14, s14, sh14, rfl, rfl, hxN14, hc14, hl14, hSb14, hr14⟩)
                    refine E.OW.pure rfl rfl rfl (E.PV.move rfl rfl) ?_
                    refine E.OW.pure rfl rfl rfl (E.PV.extract rfl rfl rfl) ?_
                    refine E.OW.pure rfl rfl rfl (E.PV.extract rfl rfl rfl) ?_
                    refine E.OW.pure rfl rfl rfl (E.PV.fieldAddr fa33_6 rfl rfl) ?_
                    refine E.OW.store (i := 1) in3.size rfl rfl rfl rfl rfl rfl rfl rfl rfl ?_
                    refine E.OW.store (i := 1) in121.size rfl rfl rfl rfl rfl rfl rfl rfl rfl ?_
                    refine E.OW.nil ?_
                    refine E.then_n ?_
                    have hX14 := hSb14 _ _ hX13
                    refine E.CW.gather [4, 3, 2, 0, 0, 2, 2, 2, 2, 2, 2] 3 rfl rfl ?_
                    refine E.CW.region ?_
                    refine E.OW.pure rfl rfl rfl (E.PV.loads (i := 1) is121 rfl rfl rfl rfl) ?_
                    (refine E.OW.call nm88 rfl rfl rfl rfl rfl rfl _ (fun w hw => rnx_ok _ _ _ _ w ?_ ?_ ?_) ?_; (focus (assumption)); (focus (omega)); (focus (refine hw.rd ?_; assumption)); rintro _ _ ⟨xN15, AR15, c15, s15, sh15, rfl, rfl, hxN15, hc15, hl15, hSb15, hr15⟩)
                    refine E.OW.pure rfl rfl rfl (E.PV.move rfl rfl) ?_
                    refine E.OW.pure rfl rfl rfl (E.PV.extract rfl rfl rfl) ?_
                    refine E.OW.pure rfl rfl rfl (E.PV.extract rfl rfl rfl) ?_
                    refine E.OW.pure rfl rfl rfl (E.PV.fieldAddr fa33_7 rfl rfl) ?_
                    refine E.OW.store (i := 2) in3.size rfl rfl rfl rfl rfl rfl rfl rfl rfl ?_
                    refine E.OW.store (i := 2) in121.size rfl rfl rfl rfl rfl rfl rfl rfl rfl ?_
                    refine E.OW.nil ?_
                    refine E.then_nf ?_
                    first | (refine ⟨[], [2, 1, 0, 0, 0, 0, 0, 0, 0], _, by repeat (first | exact E.cov_nil | refine ⟨rfl, ?_⟩), rfl, (⟨⟨LI1, LI2, LI3, xN11, xN12, xN13, xN14, xN15⟩, AI1, AI2, AI3, cI1, cI2, cI3⟩ : E.Tm), AR15, c15, s15, sh15, rfl, rfl, Cf.fit_tiny (a := xN11) (b := xN12) (c := xN13) (e := xN14) (f := xN15) hLI1 hLI2 hLI3 (Cf.tiny5 hxN11 hxN12 hxN13 hxN14 hxN15), hc15, by omega, hSb15 _ _ hX14, Cf.res_tm1 hr8 (by omega) hr9 hr10 (Cf.res_ns (Cf.res_ns (Cf.res_ns (Cf.res_ns (Cf.res_ns (Cf.res_ns0 _) hr11) hr12) hr13) hr14) hr15)⟩) | (refine ⟨[], [0, 1, 0, 0, 0, 0, 0, 0, 0], _, by repeat (first | exact E.cov_nil | refine ⟨rfl, ?_⟩), rfl, (⟨⟨LI1, [], [], 0, 0, 0, 0, 0⟩, AI1, none, none, cI1, 0, 0⟩ : E.Tm), AR8, c8, s8, sh8, rfl, rfl, Cf.fit_tiny0 hLI1, hc8, by omega, hX8, Cf.res_tm0 hr8 (by omega)⟩))
                · simp only [E.b0, E.b1, E.b2, E.b3, E.b4, E.b5, E.b6, E.b7, E.b8, E.b9, E.b10, E.b11, E.b12, E.b13, E.b14, E.b15, E.b16, E.b17, E.b18, E.b19, E.b20, reduceCtorEq] at hc
                  all_goals (
                    refine E.CW.skip ?_
                    refine E.then_nf ?_
                    first | (refine ⟨[], [2, 1, 0, 0, 0, 0, 0, 0, 0], _, by repeat (first | exact E.cov_nil | refine ⟨rfl, ?_⟩), rfl, (⟨⟨LI1, LI2, LI3, xN11, xN12, xN13, xN14, xN15⟩, AI1, AI2, AI3, cI1, cI2, cI3⟩ : E.Tm), AR15, c15, s15, sh15, rfl, rfl, Cf.fit_tiny (a := xN11) (b := xN12) (c := xN13) (e := xN14) (f := xN15) hLI1 hLI2 hLI3 (Cf.tiny5 hxN11 hxN12 hxN13 hxN14 hxN15), hc15, by omega, hSb15 _ _ hX14, Cf.res_tm1 hr8 (by omega) hr9 hr10 (Cf.res_ns (Cf.res_ns (Cf.res_ns (Cf.res_ns (Cf.res_ns (Cf.res_ns0 _) hr11) hr12) hr13) hr14) hr15)⟩) | (refine ⟨[], [0, 1, 0, 0, 0, 0, 0, 0, 0], _, by repeat (first | exact E.cov_nil | refine ⟨rfl, ?_⟩), rfl, (⟨⟨LI1, [], [], 0, 0, 0, 0, 0⟩, AI1, none, none, cI1, 0, 0⟩ : E.Tm), AR8, c8, s8, sh8, rfl, rfl, Cf.fit_tiny0 hLI1, hc8, by omega, hX8, Cf.res_tm0 hr8 (by omega)⟩))
              · rintro _ _ ⟨mN, AR16, c16, s16, sh16, rfl, rfl, ⟨hmf, hc16, hl16, hX16, hr16⟩⟩
                refine E.CW.region ?_
                refine E.OW.pure rfl rfl rfl (E.PV.fieldAddr fa28_2 rfl rfl) ?_
                refine E.OW.pure rfl rfl rfl (E.PV.load (i := 5) na25 rfl rfl rfl rfl) ?_
                refine E.OW.pure rfl rfl rfl (E.PV.loads (i := 1) is33 rfl rfl rfl rfl) ?_
                refine E.OW.buildSlice (Et := 33) (sz := 8) (cs := E.tms [mN]) (ps := [(0, .tmp 129)]) rfl rfl rfl rfl rfl (by simp) (by unfold maxLen; omega) (fun w => bsl25_1_0 _ _ _ _ _ _ _ _ _ _ _ _ _ _ w) (fun AL => ?_)
                refine E.OW.app_tm (i := 4) (j := 0) Try.underlying25 in33 rfl rfl rfl rfl rfl rfl rfl rfl rfl rfl ?_ ?_ (fun AT cT => ?_); (focus (unfold maxLen; omega)); (focus (omega))
                refine E.OW.pure rfl rfl rfl (E.PV.fieldAddr fa28_2 rfl rfl) ?_
                refine E.OW.store (i := 5) in25.size rfl rfl rfl rfl rfl rfl rfl rfl rfl ?_
                refine E.OW.nil ?_
                refine E.blk_n ?_
                refine E.then_n ?_
                refine E.CW.tmsnoc 2 4 rfl rfl ?_
                refine E.CW.region ?_
                refine E.OW.pure rfl rfl rfl (E.PV.move rfl rfl) ?_
                refine E.OW.pure rfl rfl rfl (E.PV.add_i64 rfl rfl rfl ?_) ?_; (focus (omega))
                refine E.OW.pure rfl rfl rfl (E.PV.assign rfl rfl) ?_
                refine E.OW.nil ?_
                refine E.then_nf ?_
                refine ⟨_, [(7, _)], [0, 1, 2, 0, 1, 1, 1], _, ?_, by repeat (first | exact E.cov_nil | refine ⟨rfl, ?_⟩), rfl, k + 1, AT, cT, tt ++ [mN], AR16, c16, s16, sh16, rfl, rfl, rfl, by omega, by simp; omega, Cf.fits_snoc hft hmf, hc16, hl16, hX16, by rw [List.map_append]; exact Cf.res_tms hr7 hr16⟩
                omega)
          · simp only [E.b0, E.b1, E.b2, E.b3, E.b4, E.b5, E.b6, E.b7, E.b8, E.b9, E.b10, E.b11, E.b12, E.b13, E.b14, E.b15, E.b16, E.b17, E.b18, E.b19, E.b20, reduceCtorEq] at hc
            all_goals (
              refine E.CW.exit ?_
              refine E.then_x ?_
              refine E.then_x ?_
              refine E.blk_eq ?_
              refine E.then_n ?_
              refine E.CW.seq ?_
              have hrT := Cf.res_tms_end hr7 hk (by first | (left; omega) | (right; assumption) | (right; simp_all; done))
              refine E.CW.region ?_
              refine E.OW.pure rfl rfl rfl (E.PV.loads (i := 2) is121 rfl rfl rfl rfl) ?_
              (refine E.OW.call nm89 rfl rfl rfl rfl rfl rfl _ (fun w hw => rsv_ok _ _ _ _ 8 w ?_ ?_ ?_ ?_) ?_; (focus (omega)); (focus (assumption)); (focus (omega)); (focus (refine hw.rd ?_; assumption)); rintro _ _ ⟨AS3, cS3, LS3, AR17, c17, s17, sh17, rfl, rfl, hLS3, hc17, hl17, hSb17, hr17⟩)
              refine E.OW.pure rfl rfl rfl (E.PV.move rfl rfl) ?_
              refine E.OW.pure rfl rfl rfl (E.PV.extract rfl rfl rfl) ?_
              refine E.OW.pure rfl rfl rfl (E.PV.extract rfl rfl rfl) ?_
              refine E.OW.pure rfl rfl rfl (E.PV.assign rfl rfl) ?_
              refine E.OW.store (i := 3) in121.size rfl rfl rfl rfl rfl rfl rfl rfl rfl ?_
              refine E.OW.nil ?_
              refine E.then_n ?_
              refine E.CW.seq ?_
              refine E.CW.seq ?_
              have hrF := Cf.res_cf hr1 hr2 hr3 hr4 hr5 hr6 hrT (Cf.res_num8 hr17)
              refine E.CW.region ?_
              refine E.OW.pure rfl rfl rfl (E.PV.fieldAddr fa121_1 rfl rfl) ?_
              refine E.OW.pure rfl rfl rfl (E.PV.load (i := 0) na4 rfl rfl rfl rfl) ?_
              refine E.OW.nil ?_
              refine E.then_n ?_
              refine E.CW.cond rfl (fun hc => ?_) (fun hc => ?_)
              · skip
                all_goals (
                  refine E.CW.seq ?_
                  refine E.CW.cfgz ?_
                  refine E.CW.region ?_
                  refine E.OW.pure rfl rfl rfl (E.PV.build (ps := []) rfl rfl (fun w => bld28_ w)) ?_
                  refine E.OW.store (i := 8) in28.size rfl rfl rfl rfl rfl rfl rfl rfl rfl ?_
                  refine E.OW.pure rfl rfl rfl (E.PV.assign rfl rfl) ?_
                  refine E.OW.nil ?_
                  refine E.then_n ?_
                  refine E.CW.ret ?_
                  refine E.then_ret ?_
                  refine E.KR.rv2 [1] Try.results42 (E.rv.cell is28 rfl (E.sli 0 rfl) rfl) rfl rfl ?_
                  obtain rfl : sh17 = true := by assumption
                  rw [Cf.dec_none' (by omega) hrF]
                  exact ⟨E.Cfg.z, rfl, rfl, rfl, Cf.zero_fit⟩)
              · skip
                all_goals (
                  refine E.CW.skip ?_
                  refine E.then_n ?_
                  refine E.CW.seq ?_
                  refine E.CW.seq ?_
                  obtain rfl : sh17 = false := by assumption
                  have hr8 := Cf.tk_len8 hr17
                  refine E.CW.region ?_
                  refine E.OW.pure rfl rfl rfl (E.PV.fieldAddr fa121_0 rfl rfl) ?_
                  refine E.OW.pure rfl rfl rfl (E.PV.load (i := 0) na22 rfl rfl rfl rfl) ?_
                  refine E.OW.pure rfl rfl rfl (E.PV.len Try.underlying22 rfl rfl) ?_
                  refine E.OW.pure rfl rfl rfl (E.PV.gtr rfl rfl rfl) ?_
                  refine E.OW.nil ?_
                  refine E.then_n ?_
                  refine E.CW.cond rfl (fun hc => ?_) (fun hc => ?_)
                  · simp only [E.b0, E.b1, E.b2, E.b3, E.b4, E.b5, E.b6, E.b7, E.b8, E.b9, E.b10, E.b11, E.b12, E.b13, E.b14, E.b15, E.b16, E.b17, E.b18, E.b19, E.b20, reduceCtorEq] at hc
                    all_goals (
                      refine E.CW.seq ?_
                      refine E.CW.cfgz ?_
                      refine E.CW.region ?_
                      refine E.OW.pure rfl rfl rfl (E.PV.build (ps := []) rfl rfl (fun w => bld28_ w)) ?_
                      refine E.OW.store (i := 8) in28.size rfl rfl rfl rfl rfl rfl rfl rfl rfl ?_
                      refine E.OW.pure rfl rfl rfl (E.PV.assign rfl rfl) ?_
                      refine E.OW.nil ?_
                      refine E.then_n ?_
                      refine E.CW.ret ?_
                      refine E.then_ret ?_
                      refine E.KR.rv2 [1] Try.results42 (E.rv.cell is28 rfl (E.sli 0 rfl) rfl) rfl rfl ?_
                      rw [Cf.dec_more' (by omega) hrF (by omega)]
                      exact ⟨E.Cfg.z, rfl, rfl, rfl, Cf.zero_fit⟩)
                  · simp only [E.b0, E.b1, E.b2, E.b3, E.b4, E.b5, E.b6, E.b7, E.b8, E.b9, E.b10, E.b11, E.b12, E.b13, E.b14, E.b15, E.b16, E.b17, E.b18, E.b19, E.b20, reduceCtorEq] at hc
                    all_goals (
                      refine E.CW.skip ?_
                      refine E.then_n ?_
                      refine E.CW.seq ?_
                      refine E.CW.seq ?_
                      refine E.CW.region ?_
                      refine E.OW.pure rfl rfl rfl (E.PV.assign rfl rfl) ?_
                      refine E.OW.nil ?_
                      refine E.then_n ?_
                      refine E.CW.block ?_
                      refine E.CW.sels [4, 0, 0, 0, 0, 0, 0, 0] rfl ?_
                      refine E.CW.loopk [2, 4, 9] 1 rfl rfl (fun mm mods Hm => ∃ k : Nat, mm = LS3.length - k ∧ mods = [(10, .int .i64 k)] ∧ Hm = [E.HP.blk BG 28 [.int .i64 (xN1 : Nat), .int .i64 (xN2 : Nat), .slice AS1 LS1.length cS1, .slice AS2 LS2.length cS2, .slice D tt.length q, .int .u64 (Cf.beval (LS3.take k))]] ∧ k ≤ LS3.length) (LS3.length) ?_ ?_
                      · exact ⟨[(10, _)], (by repeat (first | exact E.cov_nil | refine ⟨rfl, ?_⟩)), 0, rfl, rfl, rfl, by omega⟩
                      · rintro _ _ _ ⟨k, rfl, rfl, rfl, hk⟩
                        refine E.CW.seq ?_
                        refine E.CW.seq ?_
                        refine E.CW.region ?_
                        refine E.OW.pure rfl rfl rfl (E.PV.move rfl rfl) ?_
                        refine E.OW.pure rfl rfl rfl (E.PV.move rfl rfl) ?_
                        refine E.OW.pure rfl rfl rfl (E.PV.len Try.underlying22 rfl rfl) ?_
                        refine E.OW.pure rfl rfl rfl (E.PV.lss rfl rfl rfl) ?_
                        refine E.OW.nil ?_
                        refine E.then_n ?_
                        refine E.CW.cond rfl (fun hc => ?_) (fun hc => ?_)
                        · simp only [E.b0, E.b1, E.b2, E.b3, E.b4, E.b5, E.b6, E.b7, E.b8, E.b9, E.b10, E.b11, E.b12, E.b13, E.b14, E.b15, E.b16, E.b17, E.b18, E.b19, E.b20, reduceCtorEq] at hc
                          all_goals (
                            refine E.CW.skip ?_
                            refine E.then_n ?_
                            refine E.CW.seq ?_
                            refine E.CW.block ?_
                            have hbv := Cf.beval_small (l := LS3.take k) (by simp; omega)
                            have hy := (LS3.getD k 0).toNat_lt
                            refine E.CW.drawx mixed [2] rfl ?_
                            all_goals (refine E.AW.first 0 rfl (by kernel_rfl) (by kernel_rfl) (by kernel_rfl) rfl rfl rfl (E.PV.fieldAddr fa28_3 rfl rfl) ?_)
                            all_goals (refine E.AW.first 3 rfl (by kernel_rfl) (by kernel_rfl) (by kernel_rfl) rfl rfl rfl (E.PV.move rfl rfl) ?_)
                            all_goals (refine E.AW.first 4 rfl (by kernel_rfl) (by kernel_rfl) (by kernel_rfl) rfl rfl rfl (E.PV.move rfl rfl) ?_)
                            all_goals (refine E.AW.first 5 rfl (by kernel_rfl) (by kernel_rfl) (by kernel_rfl) rfl rfl rfl (E.PV.indexAddr1 (E.rdr (i := 0) rfl) Try.underlying22 in5 rfl rfl rfl rfl ?_ ?_) ?_; (focus (first | (simp; done) | (simp; omega))); (focus (omega)))
                            all_goals (refine E.AW.first 6 rfl (by kernel_rfl) (by kernel_rfl) (by kernel_rfl) rfl rfl rfl (E.PV.load_u8 (E.rdr (i := 0) rfl) na5 rfl rfl ?_) ?_; (focus (omega)))
                            all_goals (refine E.AW.first 7 rfl (by kernel_rfl) (by kernel_rfl) (by kernel_rfl) rfl rfl rfl (E.PV.conv_in Try.underlying5 Try.underlying26 rfl rfl ?_) ?_; (focus (first | exact E.wrap_u8 _ | (simp only [IntKind.wrap_i64, IntKind.wrap_u64, IntKind.wrap_u8]; omega))))
                            all_goals (refine E.AW.one 1 (by kernel_rfl) rfl ?_)
                            all_goals (refine E.OW.pure rfl rfl rfl (E.PV.load (i := 0) na26 rfl rfl rfl rfl) ?_)
                            all_goals (first | (refine E.AW.nil [2] rfl ?_) | (refine E.AW.nil [3] rfl ?_) | (refine E.AW.nil [4] rfl ?_) | (refine E.AW.nil [5] rfl ?_) | (refine E.AW.nil [6] rfl ?_) | (refine E.AW.nil [7] rfl ?_) | (refine E.AW.nil [8] rfl ?_) | (refine E.AW.nil [1] rfl ?_) | (refine E.AW.nil [0] rfl ?_))
                            all_goals (refine E.AW.first 2 rfl (by kernel_rfl) (by kernel_rfl) (by kernel_rfl) rfl rfl rfl (E.PV.mul rfl rfl rfl) ?_)
                            all_goals (refine E.AW.put 154 (.int .u64 ((Cf.beval (LS3.take k)) * 256)) rfl (by refine congrArg (Value.int .u64) ?_; simp only [IntKind.wrap_u64]; omega) ?_)
                            all_goals (refine E.AW.first 8 rfl (by kernel_rfl) (by kernel_rfl) (by kernel_rfl) rfl rfl rfl (E.PV.add rfl rfl rfl) ?_)
                            all_goals (refine E.AW.first 9 rfl (by kernel_rfl) (by kernel_rfl) (by kernel_rfl) rfl rfl rfl (E.PV.fieldAddr fa28_3 rfl rfl) ?_)
                            all_goals (refine E.AW.put 160 (.int .u64 (Cf.beval (LS3.take (k + 1)))) rfl (by rw [Cf.beval_take (show k < LS3.length by omega)]; refine congrArg (Value.int .u64) ?_; simp only [IntKind.wrap_u64]; omega) ?_)
                            all_goals (refine E.AW.one 10 (by kernel_rfl) rfl ?_)
                            all_goals (refine E.OW.store (i := 0) in26.size rfl rfl rfl rfl rfl rfl rfl rfl rfl ?_)
                            all_goals (first | (refine E.AW.nil [2] rfl ?_) | (refine E.AW.nil [3] rfl ?_) | (refine E.AW.nil [4] rfl ?_) | (refine E.AW.nil [5] rfl ?_) | (refine E.AW.nil [6] rfl ?_) | (refine E.AW.nil [7] rfl ?_) | (refine E.AW.nil [8] rfl ?_) | (refine E.AW.nil [1] rfl ?_) | (refine E.AW.nil [0] rfl ?_))
                            all_goals (refine E.AW.done (by kernel_rfl) ?_)
                            all_goals (
                              skip
                              refine E.blk_n ?_
                              refine E.then_n ?_
                              refine E.CW.region ?_
                              refine E.OW.pure rfl rfl rfl (E.PV.move rfl rfl) ?_
                              refine E.OW.pure rfl rfl rfl (E.PV.add_i64 rfl rfl rfl ?_) ?_; (focus (omega))
                              refine E.OW.pure rfl rfl rfl (E.PV.assign rfl rfl) ?_
                              refine E.OW.nil ?_
                              refine E.then_nf ?_
                              refine ⟨_, [(10, _)], [0, 0, 0, 0, 0, 0, 0, 0], _, ?_, by repeat (first | exact E.cov_nil | refine ⟨rfl, ?_⟩), rfl, k + 1, rfl, rfl, rfl, by omega⟩
                              omega))
                        · simp only [E.b0, E.b1, E.b2, E.b3, E.b4, E.b5, E.b6, E.b7, E.b8, E.b9, E.b10, E.b11, E.b12, E.b13, E.b14, E.b15, E.b16, E.b17, E.b18, E.b19, E.b20, reduceCtorEq] at hc
                          all_goals (
                            refine E.CW.exit ?_
                            refine E.then_x ?_
                            refine E.then_x ?_
                            refine E.blk_eq ?_
                            refine E.then_n ?_
                            refine E.CW.seq ?_
                            obtain rfl : k = LS3.length := by omega
                            have hbu := Cf.beval_u64 (l := LS3) (by omega)
                            have hgf : E.Cfg.q (⟨xN1, xN2, LS1, LS2, tt, Cf.beval LS3, AS1, cS1, AS2, cS2, D, q⟩ : E.Cfg) |>.fit := Cf.fit_read hxN1 hxN2 (show LS1.length ≤ 100000 by omega) (show LS2.length ≤ 100000 by omega) (show (tt.map (·.q)).length ≤ 100000 by simp; omega) (Cf.fits_map hft) hbu
                            refine E.CW.gather [6, 5, 4, 3, 0, 0, 0, 0] 4 rfl rfl ?_
                            refine E.CW.chunk 0 (E.HP.cfg (⟨xN1, xN2, LS1, LS2, tt, Cf.beval LS3, AS1, cS1, AS2, cS2, D, q⟩ : E.Cfg)) rfl rfl ?_
                            refine E.CW.chunk 1 (E.HP.blk BG 28 (E.Cfg.cells (⟨xN1, xN2, LS1, LS2, tt, Cf.beval LS3, AS1, cS1, AS2, cS2, D, q⟩ : E.Cfg))) rfl (by rw [List.take_length]; rfl) ?_
                            refine E.CW.sels [1, 0, 0, 0, 0] rfl ?_
                            refine E.CW.region ?_
                            refine E.OW.pure rfl rfl rfl (E.PV.loads (i := 1) is28 rfl rfl rfl rfl) ?_
                            (refine E.OW.call nm34 rfl rfl rfl rfl rfl rfl _ (fun w hw => rCk_ok _ w ?_ ?_) ?_; (focus (exact hw.rdcfg (i := 0) rfl)); (focus (assumption)); rintro _ _ ⟨rfl, rfl⟩)
                            refine E.OW.pure rfl rfl rfl (E.PV.assign rfl rfl) ?_
                            refine E.OW.nil ?_
                            refine E.then_n ?_
                            refine E.CW.seq ?_
                            refine E.CW.seq ?_
                            refine E.CW.region ?_
                            refine E.OW.pure rfl rfl rfl (E.PV.move rfl rfl) ?_
                            refine E.OW.pure rfl rfl rfl (E.PV.neq rfl rfl rfl) ?_
                            refine E.OW.nil ?_
                            refine E.then_n ?_
                            refine E.CW.cond rfl (fun hc => ?_) (fun hc => ?_)
                            · simp only [E.b0, E.b1, E.b2, E.b3, E.b4, E.b5, E.b6, E.b7, E.b8, E.b9, E.b10, E.b11, E.b12, E.b13, E.b14, E.b15, E.b16, E.b17, E.b18, E.b19, E.b20, reduceCtorEq] at hc
                              all_goals (
                                refine E.CW.seq ?_
                                refine E.CW.cfgz ?_
                                refine E.CW.region ?_
                                refine E.OW.pure rfl rfl rfl (E.PV.build (ps := []) rfl rfl (fun w => bld28_ w)) ?_
                                refine E.OW.pure rfl rfl rfl (E.PV.move rfl rfl) ?_
                                refine E.OW.store (i := 5) in28.size rfl rfl rfl rfl rfl rfl rfl rfl rfl ?_
                                refine E.OW.pure rfl rfl rfl (E.PV.assign rfl rfl) ?_
                                refine E.OW.nil ?_
                                refine E.then_n ?_
                                refine E.CW.ret ?_
                                refine E.then_ret ?_
                                refine E.KR.rv2 [1] Try.results42 (E.rv.cell is28 rfl (E.sli 0 rfl) rfl) rfl rfl ?_
                                rw [Cf.dec_bad' (by omega) hrF (by omega) (by assumption)]
                                exact ⟨E.Cfg.z, rfl, rfl, rfl, Cf.zero_fit⟩)
                            · simp only [E.b0, E.b1, E.b2, E.b3, E.b4, E.b5, E.b6, E.b7, E.b8, E.b9, E.b10, E.b11, E.b12, E.b13, E.b14, E.b15, E.b16, E.b17, E.b18, E.b19, E.b20, reduceCtorEq] at hc
                              all_goals (
                                refine E.CW.skip ?_
                                refine E.then_n ?_
                                refine E.CW.seq ?_
                                refine E.CW.region ?_
                                refine E.OW.pure rfl rfl rfl (E.PV.loads (i := 1) is28 rfl rfl rfl rfl) ?_
                                refine E.OW.store (i := 4) in28.size rfl rfl rfl rfl rfl rfl rfl rfl rfl ?_
                                refine E.OW.pure rfl rfl rfl (E.PV.assign rfl rfl) ?_
                                refine E.OW.nil ?_
                                refine E.then_n ?_
                                refine E.CW.ret ?_
                                refine E.KR.rv2 [1] Try.results42 (E.rv.cell is28 rfl (E.sli 0 rfl) rfl) rfl rfl ?_
                                rw [Cf.dec_ok' (by omega) hrF (by omega) (by assumption)]
                                exact ⟨(⟨xN1, xN2, LS1, LS2, tt, Cf.beval LS3, AS1, cS1, AS2, cS2, D, q⟩ : E.Cfg), rfl, rfl, rfl, hgf⟩)))))))
end Go.Proofs.Ytbdfljgnlendjaa
