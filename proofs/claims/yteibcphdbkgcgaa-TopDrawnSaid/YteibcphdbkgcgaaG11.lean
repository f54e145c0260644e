/- Walks (printed by gen.py). -/
import Derived.Test.YteibcphdbkgcgaaG8
import Derived.Test.YteibcphdbkgcgaaEx
namespace Go.Proofs.Yteibcphdbkgcgaa
open Go Go.RowKit
set_option linter.unusedSimpArgs false
set_option linter.unusedVariables false

set_option maxRecDepth 100000 in
theorem Exa_ok  (w0 : World) :
    Calls Try.prog 16 #[] w0 (E.Post w0 (E.Old w0) fun v Hn => ∃ g2 : E.Cfg, v = g2.v ∧ Hn = [E.HP.cfg g2] ∧ g2.q = Cf.ex) := by
  refine E.calls_of (vs := []) (H := []) Try.func16 Try.ntmps16 rfl rfl (E.HA.start w0) ?_
  refine E.CW.seq ?_
  refine E.CW.region ?_
  refine E.OW.alloc (in28.zr) rfl rfl rfl rfl rfl (fun B1 => ?_)
  refine E.OW.nil ?_
  refine E.then_n ?_
  refine E.CW.seq ?_
  refine E.CW.region ?_
  refine E.OW.pure rfl rfl rfl (E.PV.build (ps := [(0, .const (.int .i64 5)), (1, .const (.int .i64 4))]) rfl rfl (fun w => bld24_0_1 _ _ w)) ?_
  refine E.OW.buildSlice (Et := 5) (sz := 1) (cs := E.u8s Cf.exs) (ps := [(0, .const (.int .u8 1)), (1, .const (.int .u8 1)), (2, .const (.int .u8 0)), (3, .const (.int .u8 2)), (4, .const (.int .u8 2)), (5, .const (.int .u8 0))]) rfl rfl rfl rfl rfl rfl (by unfold maxLen; omega) (fun w => bsl22_6_0_1_2_3_4_5 _ _ _ _ _ _ w) (fun AS => ?_); refine E.OW.chunk 0 (E.HP.row 5 1 AS (List.length Cf.exs) 6 (E.u8s Cf.exs)) rfl rfl ?_; refine E.OW.put 6 (.slice AS (List.length Cf.exs) 6) rfl rfl ?_
  refine E.OW.pure rfl rfl rfl (E.PV.build (ps := [(0, .tmp 5), (1, .tmp 6)]) rfl rfl (fun w => bld28_0_1 _ _ _ _ _ _ _ _ w)) ?_
  refine E.OW.alloc (in28.zr) rfl rfl rfl rfl rfl (fun BX => ?_)
  refine E.OW.store (i := 0) in28.size rfl rfl rfl rfl rfl rfl rfl rfl rfl ?_
  refine E.OW.nil ?_
  refine E.then_n ?_
  refine E.CW.seq ?_
  refine E.CW.seq ?_
  refine E.CW.nilrow 5 1 ?_
  refine E.CW.region ?_
  refine E.OW.pure rfl rfl rfl (E.PV.assign rfl rfl) ?_
  refine E.OW.nil ?_
  refine E.then_n ?_
  refine E.CW.block ?_
  refine E.CW.loopk [0, 1] 2 rfl rfl (fun mm mods Hm => ∃ k : Nat, ∃ D : Option Addr, ∃ q : Nat, mm = 4 - k ∧ mods = [(2, .int .i64 k)] ∧ Hm = [E.HP.row 5 1 D (Cf.exl.take (5 * k)).length q (E.u8s (Cf.exl.take (5 * k))), E.HP.blk BX 28 [.int .i64 5, .int .i64 4, .slice D (Cf.exl.take (5 * k)).length q, .slice AS (List.length Cf.exs) 6, .slice none 0 0, .int .u64 0]] ∧ k ≤ 4) (4) ?_ ?_
  · exact ⟨[(2, _)], (by repeat (first | exact E.cov_nil | refine ⟨rfl, ?_⟩)), 0, none, 0, rfl, rfl, rfl, by omega⟩
  · rintro _ _ _ ⟨k, D, q, rfl, rfl, rfl, hk⟩
    refine E.CW.seq ?_
    refine E.CW.seq ?_
    refine E.CW.region ?_
    refine E.OW.pure rfl rfl rfl (E.PV.move rfl rfl) ?_
    refine E.OW.pure rfl rfl rfl (E.PV.lss rfl rfl rfl) ?_
    refine E.OW.nil ?_
    refine E.then_n ?_
    refine E.CW.cond rfl (fun hc => ?_) (fun hc => ?_)
    · simp only [E.b0, E.b1, E.b2, E.b3, E.b4, E.b5, E.b6, E.b7, E.b8, E.b9, E.b10, E.b11, E.b12, E.b13, E.b14, E.b15, E.b16, E.b17, E.b18, E.b19, E.b20, reduceCtorEq] at hc
      all_goals (
        refine E.CW.skip ?_
        refine E.then_n ?_
        refine E.CW.seq ?_
        refine E.CW.block ?_
        refine E.CW.seq ?_
        refine E.CW.region ?_
        refine E.OW.pure rfl rfl rfl (E.PV.move rfl rfl) ?_
        refine E.OW.pure rfl rfl rfl (E.PV.quo_i64 rfl rfl rfl ?_ ?_) ?_; (focus (omega)); (focus (omega))
        refine E.OW.pure rfl rfl rfl (E.PV.add_i64 rfl rfl rfl ?_) ?_; (focus (omega))
        refine E.OW.pure rfl rfl rfl (E.PV.conv_in Try.underlying3 Try.underlying5 rfl rfl ?_) ?_; (focus (first | exact E.wrap_u8 _ | (simp only [IntKind.wrap_i64, IntKind.wrap_u64, IntKind.wrap_u8]; omega)))
        refine E.OW.pure rfl rfl rfl (E.PV.assign rfl rfl) ?_
        refine E.OW.nil ?_
        refine E.then_n ?_
        refine E.CW.put 3 (.int .u8 ((Cf.exo k).toNat : Int)) rfl (by refine congrArg (Value.int .u8) ?_; exact Cf.exo_val (by omega)) ?_
        have hlk : (Cf.exl.take (5 * k)).length ≤ 20 := by simp [Cf.exl]; omega
        refine E.CW.region ?_
        refine E.OW.pure rfl rfl rfl (E.PV.fieldAddr fa28_0 rfl rfl) ?_
        refine E.OW.pure rfl rfl rfl (E.PV.fieldAddr fa24_2 rfl rfl) ?_
        refine E.OW.pure rfl rfl rfl (E.PV.load (i := 1) na22 rfl rfl rfl rfl) ?_
        refine E.OW.pure rfl rfl rfl (E.PV.move rfl rfl) ?_
        refine E.OW.pure rfl rfl rfl (E.PV.move rfl rfl) ?_
        refine E.OW.pure rfl rfl rfl (E.PV.move rfl rfl) ?_
        refine E.OW.pure rfl rfl rfl (E.PV.move rfl rfl) ?_
        refine E.OW.buildSlice (Et := 5) (sz := 1) (cs := E.u8s ([Cf.exo k, Cf.exo k, 255, Cf.exo k, Cf.exo k])) (ps := [(0, .tmp 19), (1, .tmp 20), (2, .const (.int .u8 255)), (3, .tmp 21), (4, .tmp 22)]) rfl rfl rfl rfl rfl rfl (by unfold maxLen; omega) (fun w => bsl22_5_0_1_2_3_4 _ _ _ _ _ w) (fun A4 => ?_); refine E.OW.chunk 0 (E.HP.row 5 1 A4 (List.length ([Cf.exo k, Cf.exo k, 255, Cf.exo k, Cf.exo k])) 5 (E.u8s ([Cf.exo k, Cf.exo k, 255, Cf.exo k, Cf.exo k]))) rfl rfl ?_; refine E.OW.put 23 (.slice A4 (List.length ([Cf.exo k, Cf.exo k, 255, Cf.exo k, Cf.exo k])) 5) rfl rfl ?_
        refine E.OW.app_u8 (i := 1) Try.underlying22 in5 rfl rfl rfl rfl rfl rfl rfl rfl rfl (E.rdr (i := 0) rfl) ?_ (fun AN cN => ?_); (focus (simp; omega))
        refine E.OW.pure rfl rfl rfl (E.PV.fieldAddr fa28_0 rfl rfl) ?_
        refine E.OW.pure rfl rfl rfl (E.PV.fieldAddr fa24_2 rfl rfl) ?_
        refine E.OW.store (i := 2) in22.size rfl rfl rfl rfl rfl rfl rfl rfl rfl ?_
        refine E.OW.nil ?_
        refine E.blk_n ?_
        refine E.then_n ?_
        refine E.CW.region ?_
        refine E.OW.pure rfl rfl rfl (E.PV.move rfl rfl) ?_
        refine E.OW.pure rfl rfl rfl (E.PV.add_i64 rfl rfl rfl ?_) ?_; (focus (omega))
        refine E.OW.pure rfl rfl rfl (E.PV.assign rfl rfl) ?_
        refine E.OW.nil ?_
        refine E.then_nf ?_
        refine ⟨_, [(2, _)], [1, 0, 1, 1], _, ?_, by repeat (first | exact E.cov_nil | refine ⟨rfl, ?_⟩), rfl, k + 1, AN, cN, rfl, rfl, by rw [← Cf.exl_step (show k < 4 by omega)], by omega⟩
        omega)
    · simp only [E.b0, E.b1, E.b2, E.b3, E.b4, E.b5, E.b6, E.b7, E.b8, E.b9, E.b10, E.b11, E.b12, E.b13, E.b14, E.b15, E.b16, E.b17, E.b18, E.b19, E.b20, reduceCtorEq] at hc
      all_goals (
        refine E.CW.exit ?_
        refine E.then_x ?_
        refine E.then_x ?_
        refine E.blk_eq ?_
        refine E.then_n ?_
        refine E.CW.seq ?_
        refine E.CW.seq ?_
        have hk4 : k = 4 := by omega
        refine E.CW.nilrow 52 8 ?_
        refine E.CW.tmsnil ?_
        refine E.CW.region ?_
        refine E.OW.pure rfl rfl rfl (E.PV.assign rfl rfl) ?_
        refine E.OW.nil ?_
        refine E.then_n ?_
        refine E.CW.block ?_
        refine E.CW.sels [0, 2, 0, 0, 0, 0] rfl ?_
        refine E.CW.loopk [0, 1] 3 rfl rfl (fun mm mods Hm => ∃ k2 : Nat, ∃ D2 : Option Addr, ∃ q2 : Nat, ∃ tt : List E.Tm, mm = 2 - k2 ∧ mods = [(4, .int .i64 k2)] ∧ Hm = [E.HP.tms tt, E.HP.blk BX 28 [.int .i64 5, .int .i64 4, .slice D (Cf.exl.take (5 * k)).length q, .slice AS (List.length Cf.exs) 6, .slice D2 tt.length q2, .int .u64 0], E.HP.row 52 8 D2 tt.length q2 (E.tms tt)] ∧ (k2 ≤ 2 ∧ tt.length = k2 ∧ tt.map (·.q) = Cf.ex.ts.take k2)) (2) ?_ ?_
        · exact ⟨[(4, _)], (by repeat (first | exact E.cov_nil | refine ⟨rfl, ?_⟩)), 0, none, 0, [], rfl, rfl, rfl, by omega, rfl, rfl⟩
        · rintro _ _ _ ⟨k2, D2, q2, tt, rfl, rfl, rfl, hk2, htl, htq⟩
          refine E.CW.seq ?_
          refine E.CW.seq ?_
          refine E.CW.region ?_
          refine E.OW.pure rfl rfl rfl (E.PV.move rfl rfl) ?_
          refine E.OW.pure rfl rfl rfl (E.PV.lss rfl rfl rfl) ?_
          refine E.OW.nil ?_
          refine E.then_n ?_
          refine E.CW.cond rfl (fun hc => ?_) (fun hc => ?_)
          · simp only [E.b0, E.b1, E.b2, E.b3, E.b4, E.b5, E.b6, E.b7, E.b8, E.b9, E.b10, E.b11, E.b12, E.b13, E.b14, E.b15, E.b16, E.b17, E.b18, E.b19, E.b20, reduceCtorEq] at hc
            all_goals (
              refine E.CW.skip ?_
              refine E.then_n ?_
              refine E.CW.seq ?_
              refine E.CW.block ?_
              refine E.CW.region ?_
              refine E.OW.pure rfl rfl rfl (E.PV.fieldAddr fa28_2 rfl rfl) ?_
              refine E.OW.pure rfl rfl rfl (E.PV.load (i := 1) na25 rfl rfl rfl rfl) ?_
              refine E.OW.pure rfl rfl rfl (E.PV.move rfl rfl) ?_
              refine E.OW.pure rfl rfl rfl (E.PV.mul_i64 rfl rfl rfl ?_) ?_; (focus (omega))
              refine E.OW.buildSlice (Et := 3) (sz := 1) (ps := [(0, .tmp 34)]) rfl rfl rfl rfl rfl (by simp) (by unfold maxLen; omega) (fun w => bsl50_1_0 _ w) (fun AI1 => ?_)
              refine E.OW.pure rfl rfl rfl (E.PV.move rfl rfl) ?_
              refine E.OW.pure rfl rfl rfl (E.PV.mul_i64 rfl rfl rfl ?_) ?_; (focus (omega))
              refine E.OW.pure rfl rfl rfl (E.PV.add_i64 rfl rfl rfl ?_) ?_; (focus (omega))
              refine E.OW.buildSlice (Et := 3) (sz := 1) (ps := [(0, .tmp 38)]) rfl rfl rfl rfl rfl (by simp) (by unfold maxLen; omega) (fun w => bsl50_1_0 _ w) (fun AI2 => ?_)
              refine E.OW.pure rfl rfl rfl (E.PV.move rfl rfl) ?_
              refine E.OW.pure rfl rfl rfl (E.PV.mul_i64 rfl rfl rfl ?_) ?_; (focus (omega))
              refine E.OW.pure rfl rfl rfl (E.PV.add_i64 rfl rfl rfl ?_) ?_; (focus (omega))
              refine E.OW.buildSlice (Et := 3) (sz := 1) (ps := [(0, .tmp 42)]) rfl rfl rfl rfl rfl (by simp) (by unfold maxLen; omega) (fun w => bsl50_1_0 _ w) (fun AI3 => ?_)
              refine E.OW.pure rfl rfl rfl (E.PV.build (ps := [(0, .tmp 35), (1, .tmp 39), (2, .tmp 43), (3, .const (.int .i64 1)), (4, .const (.int .i64 1)), (5, .const (.int .i64 2)), (6, .const (.int .i64 2)), (7, .const (.int .i64 8))]) rfl rfl (fun w => bld52_0_1_2_3_4_5_6_7 _ _ _ _ _ _ _ _ _ _ _ _ _ _ w)) ?_
              refine E.OW.buildSlice (Et := 52) (sz := 8) (cs := E.tms [(⟨Cf.ext k2, AI1, AI2, AI3, 1, 1, 1⟩ : E.Tm)]) (ps := [(0, .tmp 44)]) rfl rfl rfl rfl rfl rfl (by unfold maxLen; omega) (fun w => bsl25_1_0 _ _ _ _ _ _ _ _ _ _ _ _ _ _ w) (fun AL => ?_)
              refine E.OW.app_tm (i := 5) (j := 0) Try.underlying25 in52 rfl rfl rfl rfl rfl rfl rfl rfl rfl rfl ?_ ?_ (fun AT cT => ?_); (focus (unfold maxLen; omega)); (focus (omega))
              refine E.OW.pure rfl rfl rfl (E.PV.fieldAddr fa28_2 rfl rfl) ?_
              refine E.OW.store (i := 5) in25.size rfl rfl rfl rfl rfl rfl rfl rfl rfl ?_
              refine E.OW.nil ?_
              refine E.blk_n ?_
              refine E.then_n ?_
              refine E.CW.gather [4, 3, 2, 0, 0, 0, 0, 0, 0] 3 rfl rfl ?_
              refine E.CW.chunk 0 (E.HP.tm (⟨Cf.ext k2, AI1, AI2, AI3, 1, 1, 1⟩ : E.Tm)) rfl rfl ?_
              refine E.CW.tmsnoc 0 2 rfl rfl ?_
              refine E.CW.region ?_
              refine E.OW.pure rfl rfl rfl (E.PV.move rfl rfl) ?_
              refine E.OW.pure rfl rfl rfl (E.PV.add_i64 rfl rfl rfl ?_) ?_; (focus (omega))
              refine E.OW.pure rfl rfl rfl (E.PV.assign rfl rfl) ?_
              refine E.OW.nil ?_
              refine E.then_nf ?_
              refine ⟨_, [(4, _)], [0, 0, 0, 0, 0, 0], _, ?_, by repeat (first | exact E.cov_nil | refine ⟨rfl, ?_⟩), rfl, k2 + 1, AT, cT, tt ++ [(⟨Cf.ext k2, AI1, AI2, AI3, 1, 1, 1⟩ : E.Tm)], rfl, rfl, rfl, by omega, by simp; omega, Cf.ext_step htq (by omega) rfl⟩
              omega)
          · simp only [E.b0, E.b1, E.b2, E.b3, E.b4, E.b5, E.b6, E.b7, E.b8, E.b9, E.b10, E.b11, E.b12, E.b13, E.b14, E.b15, E.b16, E.b17, E.b18, E.b19, E.b20, reduceCtorEq] at hc
            all_goals (
              refine E.CW.exit ?_
              refine E.then_x ?_
              refine E.then_x ?_
              refine E.blk_eq ?_
              refine E.then_n ?_
              refine E.CW.seq ?_
              have hk2 : k2 = 2 := by omega
              refine E.CW.gather [3, 3, 2, 0, 0, 0] 4 rfl rfl ?_
              refine E.CW.region ?_
              refine E.OW.pure rfl rfl rfl (E.PV.loads (i := 1) is28 rfl rfl rfl rfl) ?_
              refine E.OW.store (i := 2) in28.size rfl rfl rfl rfl rfl rfl rfl rfl rfl ?_
              refine E.OW.nil ?_
              refine E.then_n ?_
              refine E.CW.ret ?_
              refine E.KR.rv1 [1] Try.results16 (E.rv.cell is28 rfl (E.sli 0 rfl) rfl) rfl ?_
              subst hk4 hk2
              refine ⟨⟨5, 4, (Cf.exl.take (5 * 4)), Cf.exs, tt, 0, D, q, AS, 6, D2, q2⟩, rfl, rfl, ?_⟩
              simp only [E.Cfg.q]
              rw [htq]
              rfl))
end Go.Proofs.Yteibcphdbkgcgaa
