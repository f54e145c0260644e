/- Walks (printed by gen.py). -/
import Derived.Test.YteibcphdbkgcgaaG2
import Derived.Test.YteibcphdbkgcgaaFlR
namespace Go.Proofs.Yteibcphdbkgcgaa
open Go Go.RowKit
set_option linter.unusedSimpArgs false
set_option linter.unusedVariables false

set_option maxRecDepth 100000 in
theorem Draw_ok (a b : Int) (A : Option Addr) (c : Nat) (l : List UInt8) (w0 : World) (hl : l.length ≤ 140737488355328) (hX : E.Rd w0 (E.Old w0) A (E.u8s l)) :
    Calls Try.prog 7 #[.agg #[.int .i64 a, .int .i64 b, .slice A l.length c]] w0 (E.Post w0 (E.Old w0) fun v Hn => v = .tuple #[E.sv (Fl.draw a b l).1, .int .i64 (Fl.draw a b l).2] ∧ Hn = []) := by
  refine E.calls_of (vs := [.agg #[.int .i64 a, .int .i64 b, .slice A l.length c]]) (H := []) Try.func7 Try.ntmps7 rfl rfl (E.HA.start w0) ?_
  refine E.CW.seq ?_
  refine E.CW.region ?_
  refine E.OW.box rfl rfl rfl rfl rfl rfl (fun B1 => ?_)
  refine E.OW.pure rfl rfl rfl (E.PV.assign rfl rfl) ?_
  refine E.OW.pure rfl rfl rfl (E.PV.assign rfl rfl) ?_
  refine E.OW.nil ?_
  refine E.then_n ?_
  refine E.CW.seq ?_
  refine E.CW.region ?_
  refine E.OW.pure rfl rfl rfl (E.PV.loads (i := 0) is24 rfl rfl rfl rfl) ?_
  (refine E.OW.call nm25 rfl rfl rfl rfl rfl rfl _ (fun w hw => boardOf_ok _ _ _ _ _ w) ?_; rintro _ _ ⟨rfl, rfl⟩)
  refine E.OW.alloc (in63.zr) rfl rfl rfl rfl rfl (fun B2 => ?_)
  refine E.OW.store (i := 0) in63.size rfl rfl rfl rfl rfl rfl rfl rfl rfl ?_
  refine E.OW.nil ?_
  refine E.then_n ?_
  refine E.CW.seq ?_
  refine E.CW.seq ?_
  refine E.CW.region ?_
  refine E.OW.pure rfl rfl rfl (E.PV.loads (i := 0) is63 rfl rfl rfl rfl) ?_
  (refine E.OW.call nm26 rfl rfl rfl rfl rfl rfl _ (fun w hw => bcheck_ok _ _ _ _ _ w ?_ ?_) ?_; (focus (assumption)); (focus (refine hw.rd ?_; assumption)); rintro _ _ ⟨rfl, rfl⟩)
  refine E.OW.pure rfl rfl rfl (E.PV.assign rfl rfl) ?_
  refine E.OW.nil ?_
  refine E.then_n ?_
  refine E.CW.seq ?_
  refine E.CW.region ?_
  refine E.OW.pure rfl rfl rfl (E.PV.move rfl rfl) ?_
  refine E.OW.pure rfl rfl rfl (E.PV.neq rfl rfl rfl) ?_
  refine E.OW.nil ?_
  refine E.then_n ?_
  refine E.CW.cond rfl (fun hc => ?_) (fun hc => ?_)
  · simp only [E.b0, E.b1, E.b2, E.b3, E.b4, E.b5, E.b6, E.b7, E.b8, E.b9, E.b10, E.b11, E.b12, E.b13, E.b14, E.b15, E.b16, E.b17, E.b18, E.b19, E.b20, reduceCtorEq] at hc
    all_goals (
      refine E.CW.seq ?_
      refine E.CW.region ?_
      refine E.OW.pure rfl rfl rfl (E.PV.move rfl rfl) ?_
      refine E.OW.pure rfl rfl rfl (E.PV.assign rfl rfl) ?_
      refine E.OW.pure rfl rfl rfl (E.PV.assign rfl rfl) ?_
      refine E.OW.nil ?_
      refine E.then_n ?_
      refine E.CW.ret ?_
      refine E.then_ret ?_
      refine E.KR.two [] Try.results7 rfl rfl rfl ?_
      exact ⟨by (cases hq : Fl.validF a b l <;> simp_all [Fl.draw, Fl.checkF, E.sv]), rfl⟩)
  · simp only [E.b0, E.b1, E.b2, E.b3, E.b4, E.b5, E.b6, E.b7, E.b8, E.b9, E.b10, E.b11, E.b12, E.b13, E.b14, E.b15, E.b16, E.b17, E.b18, E.b19, E.b20, reduceCtorEq] at hc
    all_goals (
      refine E.CW.skip ?_
      refine E.then_n ?_
      refine E.CW.seq ?_
      refine E.CW.nilrow 5 1 ?_
      have hv : Fl.validF a b l = true := Fl.checkF_zero.1 (by assumption)
      have h64 := Fl.validF_len hv
      have hvv := Fl.valid_iff.1 (Fl.validF_iff.1 hv).1.1
      refine E.CW.region ?_
      refine E.OW.pure rfl rfl rfl (E.PV.assign rfl rfl) ?_
      refine E.OW.nil ?_
      refine E.then_n ?_
      refine E.CW.seq ?_
      refine E.CW.seq ?_
      refine E.CW.region ?_
      refine E.OW.pure rfl rfl rfl (E.PV.fieldAddr fa63_1 rfl rfl) ?_
      refine E.OW.pure rfl rfl rfl (E.PV.load (i := 1) na22 rfl rfl rfl rfl) ?_
      refine E.OW.pure rfl rfl rfl (E.PV.len Try.underlying22 rfl rfl) ?_
      refine E.OW.pure rfl rfl rfl (E.PV.move rfl rfl) ?_
      refine E.OW.nil ?_
      refine E.then_n ?_
      refine E.CW.block ?_
      refine E.CW.loopk [4, 18] 1 rfl rfl (fun mm mods Hm => ∃ k : Nat, ∃ D : Option Addr, ∃ e : Nat, mm = l.length - k ∧ mods = [(19, .int .i64 k), (6, .slice D (Fl.draws a l k).length e)] ∧ Hm = [E.HP.row 5 1 D (Fl.draws a l k).length e (E.u8s (Fl.draws a l k))] ∧ k ≤ l.length) (l.length) ?_ ?_
      · exact ⟨[(19, _), (6, _)], (by repeat (first | exact E.cov_nil | refine ⟨rfl, ?_⟩)), 0, none, 0, rfl, rfl, rfl, by omega⟩
      · rintro _ _ _ ⟨k, D, e, rfl, rfl, rfl, hk⟩
        have hdl := Fl.draws_len a l k
        refine E.CW.seq ?_
        refine E.CW.region ?_
        refine E.OW.pure rfl rfl rfl (E.PV.lss rfl rfl rfl) ?_
        refine E.OW.nil ?_
        refine E.then_n ?_
        refine E.CW.seq ?_
        refine E.CW.cond rfl (fun hc => ?_) (fun hc => ?_)
        · simp only [E.b0, E.b1, E.b2, E.b3, E.b4, E.b5, E.b6, E.b7, E.b8, E.b9, E.b10, E.b11, E.b12, E.b13, E.b14, E.b15, E.b16, E.b17, E.b18, E.b19, E.b20, reduceCtorEq] at hc
          all_goals (
            refine E.CW.skip ?_
            refine E.then_n ?_
            refine E.CW.seq ?_
            refine E.CW.block ?_
            refine E.CW.seq ?_
            refine E.CW.region ?_
            refine E.OW.pure rfl rfl rfl (E.PV.move rfl rfl) ?_
            refine E.OW.pure rfl rfl rfl (E.PV.assign rfl rfl) ?_
            refine E.OW.nil ?_
            refine E.then_n ?_
            refine E.CW.seq ?_
            refine E.CW.seq ?_
            refine E.CW.region ?_
            refine E.OW.pure rfl rfl rfl (E.PV.loads (i := 1) is63 rfl rfl rfl rfl) ?_
            refine E.OW.pure rfl rfl rfl (E.PV.move rfl rfl) ?_
            (refine E.OW.call nm27 rfl rfl rfl rfl rfl rfl _ (fun w hw => bowner_ok _ _ _ _ _ _ w ?_ ?_) ?_; (focus (omega)); (focus (refine hw.rd ?_; assumption)); rintro _ _ ⟨rfl, rfl⟩)
            refine E.OW.pure rfl rfl rfl (E.PV.assign rfl rfl) ?_
            refine E.OW.nil ?_
            refine E.then_n ?_
            refine E.CW.seq ?_
            have hok := Fl.okc_at hv (show k < l.length by omega)
            refine E.CW.region ?_
            refine E.OW.pure rfl rfl rfl (E.PV.move rfl rfl) ?_
            refine E.OW.nil ?_
            refine E.then_n ?_
            refine E.CW.block ?_
            refine E.CW.seq ?_
            refine E.CW.region ?_
            refine E.OW.pure rfl rfl rfl (E.PV.eql rfl rfl rfl) ?_
            refine E.OW.pure rfl rfl rfl (E.PV.assign rfl rfl) ?_
            refine E.OW.nil ?_
            refine E.then_n ?_
            refine E.CW.cond rfl (fun hc => ?_) (fun hc => ?_)
            · simp only [E.b0, E.b1, E.b2, E.b3, E.b4, E.b5, E.b6, E.b7, E.b8, E.b9, E.b10, E.b11, E.b12, E.b13, E.b14, E.b15, E.b16, E.b17, E.b18, E.b19, E.b20, reduceCtorEq] at hc
              all_goals (
                refine E.CW.region ?_
                refine E.OW.pure rfl rfl rfl (E.PV.move rfl rfl) ?_
                refine E.OW.buildSlice (Et := 5) (sz := 1) (ps := [(0, .const (.int .u8 35))]) rfl rfl rfl rfl rfl (by simp) (by unfold maxLen; omega) (fun w => bsl22_1_0 _ w) (fun A3 => ?_)
                refine E.OW.app_u81 (j := 0) (i := 0) (Fl.chr (l.getD k 0)) ?_ Try.underlying22 in5 rfl rfl rfl rfl rfl rfl rfl rfl rfl rfl ?_ (fun A4 c4 => ?_); (focus ((rw [Fl.chr_wall (by assumption)]))); (focus ((first | omega | (simp only [List.length_append, List.length_cons, List.length_nil] at *; omega) | (unfold maxLen at *; omega))))
                refine E.OW.pure rfl rfl rfl (E.PV.assign rfl rfl) ?_
                refine E.OW.nil ?_
                refine E.blk_n ?_
                refine E.then_n ?_
                refine E.CW.seq ?_
                refine E.CW.region ?_
                refine E.OW.pure rfl rfl rfl (E.PV.move rfl rfl) ?_
                refine E.OW.pure rfl rfl rfl (E.PV.add_i64 rfl rfl rfl ?_) ?_; (focus (omega))
                refine E.OW.pure rfl rfl rfl (E.PV.fieldAddr fa63_0 rfl rfl) ?_
                refine E.OW.pure rfl rfl rfl (E.PV.fieldAddr fa61_0 rfl rfl) ?_
                refine E.OW.pure rfl rfl rfl (E.PV.load (i := 1) na3 rfl rfl rfl rfl) ?_
                refine E.OW.pure rfl rfl rfl (E.PV.rem_i64 rfl rfl rfl ?_ ?_) ?_; (focus (omega)); (focus (omega))
                refine E.OW.pure rfl rfl rfl (E.PV.eql rfl rfl rfl) ?_
                refine E.OW.nil ?_
                refine E.then_n ?_
                refine E.CW.cond rfl (fun hc => ?_) (fun hc => ?_)
                · simp only [E.b0, E.b1, E.b2, E.b3, E.b4, E.b5, E.b6, E.b7, E.b8, E.b9, E.b10, E.b11, E.b12, E.b13, E.b14, E.b15, E.b16, E.b17, E.b18, E.b19, E.b20, reduceCtorEq] at hc
                  all_goals (
                    refine E.CW.region ?_
                    refine E.OW.pure rfl rfl rfl (E.PV.move rfl rfl) ?_
                    refine E.OW.buildSlice (Et := 5) (sz := 1) (ps := [(0, .const (.int .u8 10))]) rfl rfl rfl rfl rfl (by simp) (by unfold maxLen; omega) (fun w => bsl22_1_0 _ w) (fun A5 => ?_)
                    refine E.OW.app_u81 (j := 0) (i := 0) (10) ?_ Try.underlying22 in5 rfl rfl rfl rfl rfl rfl rfl rfl rfl rfl ?_ (fun A6 c6 => ?_); (focus (rfl)); (focus ((first | omega | (simp only [List.length_append, List.length_cons, List.length_nil] at *; omega) | (unfold maxLen at *; omega))))
                    refine E.OW.pure rfl rfl rfl (E.PV.assign rfl rfl) ?_
                    refine E.OW.nil ?_
                    refine E.blk_n ?_
                    refine E.then_n ?_
                    refine E.CW.region ?_
                    refine E.OW.pure rfl rfl rfl (E.PV.add_i64 rfl rfl rfl ?_) ?_; (focus (omega))
                    refine E.OW.pure rfl rfl rfl (E.PV.move rfl rfl) ?_
                    refine E.OW.nil ?_
                    refine E.then_nf ?_
                    refine ⟨_, [(19, _), (6, _)], [0, 0, 0], _, ?_, by repeat (first | exact E.cov_nil | refine ⟨rfl, ?_⟩), rfl, k + 1, _, _, rfl, by rw [Fl.draws_nl (by assumption)]; rfl, by rw [Fl.draws_nl (by assumption)], by omega⟩
                    omega)
                · simp only [E.b0, E.b1, E.b2, E.b3, E.b4, E.b5, E.b6, E.b7, E.b8, E.b9, E.b10, E.b11, E.b12, E.b13, E.b14, E.b15, E.b16, E.b17, E.b18, E.b19, E.b20, reduceCtorEq] at hc
                  all_goals (
                    refine E.CW.skip ?_
                    refine E.blk_n ?_
                    refine E.then_n ?_
                    refine E.CW.region ?_
                    refine E.OW.pure rfl rfl rfl (E.PV.add_i64 rfl rfl rfl ?_) ?_; (focus (omega))
                    refine E.OW.pure rfl rfl rfl (E.PV.move rfl rfl) ?_
                    refine E.OW.nil ?_
                    refine E.then_nf ?_
                    refine ⟨_, [(19, _), (6, _)], [0, 0, 0], _, ?_, by repeat (first | exact E.cov_nil | refine ⟨rfl, ?_⟩), rfl, k + 1, _, _, rfl, by rw [Fl.draws_no (by assumption)]; rfl, by rw [Fl.draws_no (by assumption)], by omega⟩
                    omega))
            · simp only [E.b0, E.b1, E.b2, E.b3, E.b4, E.b5, E.b6, E.b7, E.b8, E.b9, E.b10, E.b11, E.b12, E.b13, E.b14, E.b15, E.b16, E.b17, E.b18, E.b19, E.b20, reduceCtorEq] at hc
              all_goals (
                refine E.CW.seq ?_
                refine E.CW.region ?_
                refine E.OW.pure rfl rfl rfl (E.PV.eql rfl rfl rfl) ?_
                refine E.OW.pure rfl rfl rfl (E.PV.assign rfl rfl) ?_
                refine E.OW.nil ?_
                refine E.then_n ?_
                refine E.CW.cond rfl (fun hc => ?_) (fun hc => ?_)
                · simp only [E.b0, E.b1, E.b2, E.b3, E.b4, E.b5, E.b6, E.b7, E.b8, E.b9, E.b10, E.b11, E.b12, E.b13, E.b14, E.b15, E.b16, E.b17, E.b18, E.b19, E.b20, reduceCtorEq] at hc
                  all_goals (
                    refine E.CW.region ?_
                    refine E.OW.pure rfl rfl rfl (E.PV.move rfl rfl) ?_
                    refine E.OW.buildSlice (Et := 5) (sz := 1) (ps := [(0, .const (.int .u8 46))]) rfl rfl rfl rfl rfl (by simp) (by unfold maxLen; omega) (fun w => bsl22_1_0 _ w) (fun A7 => ?_)
                    refine E.OW.app_u81 (j := 0) (i := 0) (Fl.chr (l.getD k 0)) ?_ Try.underlying22 in5 rfl rfl rfl rfl rfl rfl rfl rfl rfl rfl ?_ (fun A8 c8 => ?_); (focus ((rw [Fl.chr_aisle (by assumption)]))); (focus ((first | omega | (simp only [List.length_append, List.length_cons, List.length_nil] at *; omega) | (unfold maxLen at *; omega))))
                    refine E.OW.pure rfl rfl rfl (E.PV.assign rfl rfl) ?_
                    refine E.OW.nil ?_
                    refine E.blk_n ?_
                    refine E.then_n ?_
                    refine E.CW.seq ?_
                    refine E.CW.region ?_
                    refine E.OW.pure rfl rfl rfl (E.PV.move rfl rfl) ?_
                    refine E.OW.pure rfl rfl rfl (E.PV.add_i64 rfl rfl rfl ?_) ?_; (focus (omega))
                    refine E.OW.pure rfl rfl rfl (E.PV.fieldAddr fa63_0 rfl rfl) ?_
                    refine E.OW.pure rfl rfl rfl (E.PV.fieldAddr fa61_0 rfl rfl) ?_
                    refine E.OW.pure rfl rfl rfl (E.PV.load (i := 1) na3 rfl rfl rfl rfl) ?_
                    refine E.OW.pure rfl rfl rfl (E.PV.rem_i64 rfl rfl rfl ?_ ?_) ?_; (focus (omega)); (focus (omega))
                    refine E.OW.pure rfl rfl rfl (E.PV.eql rfl rfl rfl) ?_
                    refine E.OW.nil ?_
                    refine E.then_n ?_
                    refine E.CW.cond rfl (fun hc => ?_) (fun hc => ?_)
                    · simp only [E.b0, E.b1, E.b2, E.b3, E.b4, E.b5, E.b6, E.b7, E.b8, E.b9, E.b10, E.b11, E.b12, E.b13, E.b14, E.b15, E.b16, E.b17, E.b18, E.b19, E.b20, reduceCtorEq] at hc
                      all_goals (
                        refine E.CW.region ?_
                        refine E.OW.pure rfl rfl rfl (E.PV.move rfl rfl) ?_
                        refine E.OW.buildSlice (Et := 5) (sz := 1) (ps := [(0, .const (.int .u8 10))]) rfl rfl rfl rfl rfl (by simp) (by unfold maxLen; omega) (fun w => bsl22_1_0 _ w) (fun A9 => ?_)
                        refine E.OW.app_u81 (j := 0) (i := 0) (10) ?_ Try.underlying22 in5 rfl rfl rfl rfl rfl rfl rfl rfl rfl rfl ?_ (fun A10 c10 => ?_); (focus (rfl)); (focus ((first | omega | (simp only [List.length_append, List.length_cons, List.length_nil] at *; omega) | (unfold maxLen at *; omega))))
                        refine E.OW.pure rfl rfl rfl (E.PV.assign rfl rfl) ?_
                        refine E.OW.nil ?_
                        refine E.blk_n ?_
                        refine E.then_n ?_
                        refine E.CW.region ?_
                        refine E.OW.pure rfl rfl rfl (E.PV.add_i64 rfl rfl rfl ?_) ?_; (focus (omega))
                        refine E.OW.pure rfl rfl rfl (E.PV.move rfl rfl) ?_
                        refine E.OW.nil ?_
                        refine E.then_nf ?_
                        refine ⟨_, [(19, _), (6, _)], [0, 0, 0], _, ?_, by repeat (first | exact E.cov_nil | refine ⟨rfl, ?_⟩), rfl, k + 1, _, _, rfl, by rw [Fl.draws_nl (by assumption)]; rfl, by rw [Fl.draws_nl (by assumption)], by omega⟩
                        omega)
                    · simp only [E.b0, E.b1, E.b2, E.b3, E.b4, E.b5, E.b6, E.b7, E.b8, E.b9, E.b10, E.b11, E.b12, E.b13, E.b14, E.b15, E.b16, E.b17, E.b18, E.b19, E.b20, reduceCtorEq] at hc
                      all_goals (
                        refine E.CW.skip ?_
                        refine E.blk_n ?_
                        refine E.then_n ?_
                        refine E.CW.region ?_
                        refine E.OW.pure rfl rfl rfl (E.PV.add_i64 rfl rfl rfl ?_) ?_; (focus (omega))
                        refine E.OW.pure rfl rfl rfl (E.PV.move rfl rfl) ?_
                        refine E.OW.nil ?_
                        refine E.then_nf ?_
                        refine ⟨_, [(19, _), (6, _)], [0, 0, 0], _, ?_, by repeat (first | exact E.cov_nil | refine ⟨rfl, ?_⟩), rfl, k + 1, _, _, rfl, by rw [Fl.draws_no (by assumption)]; rfl, by rw [Fl.draws_no (by assumption)], by omega⟩
                        omega))
                · simp only [E.b0, E.b1, E.b2, E.b3, E.b4, E.b5, E.b6, E.b7, E.b8, E.b9, E.b10, E.b11, E.b12, E.b13, E.b14, E.b15, E.b16, E.b17, E.b18, E.b19, E.b20, reduceCtorEq] at hc
                  all_goals (
                    have hten := Fl.chr_ten hok (by simpa using (show ¬ Fl.ownerC (l.getD ((k : Int)).toNat 0) = -1 by assumption)) (by simpa using (show ¬ Fl.ownerC (l.getD ((k : Int)).toNat 0) = -2 by assumption))
                    refine E.CW.region ?_
                    refine E.OW.pure rfl rfl rfl (E.PV.move rfl rfl) ?_
                    refine E.OW.pure rfl rfl rfl (E.PV.move rfl rfl) ?_
                    refine E.OW.pure rfl rfl rfl (E.PV.conv Try.underlying3 Try.underlying5 rfl rfl) ?_
                    refine E.OW.pure rfl rfl rfl (E.PV.add rfl rfl rfl) ?_
                    refine E.OW.buildSlice (Et := 5) (sz := 1) (ps := [(0, .tmp 29)]) rfl rfl rfl rfl rfl (by simp) (by unfold maxLen; omega) (fun w => bsl22_1_0 _ w) (fun A11 => ?_)
                    refine E.OW.app_u81 (j := 0) (i := 0) (Fl.chr (l.getD k 0)) ?_ Try.underlying22 in5 rfl rfl rfl rfl rfl rfl rfl rfl rfl rfl ?_ (fun A12 c12 => ?_); (focus ((rw [hten.1]; simp only [IntKind.wrap_u8, Int.toNat_natCast]; omega))); (focus ((first | omega | (simp only [List.length_append, List.length_cons, List.length_nil] at *; omega) | (unfold maxLen at *; omega))))
                    refine E.OW.pure rfl rfl rfl (E.PV.assign rfl rfl) ?_
                    refine E.OW.nil ?_
                    refine E.blk_n ?_
                    refine E.then_n ?_
                    refine E.CW.seq ?_
                    refine E.CW.region ?_
                    refine E.OW.pure rfl rfl rfl (E.PV.move rfl rfl) ?_
                    refine E.OW.pure rfl rfl rfl (E.PV.add_i64 rfl rfl rfl ?_) ?_; (focus (omega))
                    refine E.OW.pure rfl rfl rfl (E.PV.fieldAddr fa63_0 rfl rfl) ?_
                    refine E.OW.pure rfl rfl rfl (E.PV.fieldAddr fa61_0 rfl rfl) ?_
                    refine E.OW.pure rfl rfl rfl (E.PV.load (i := 1) na3 rfl rfl rfl rfl) ?_
                    refine E.OW.pure rfl rfl rfl (E.PV.rem_i64 rfl rfl rfl ?_ ?_) ?_; (focus (omega)); (focus (omega))
                    refine E.OW.pure rfl rfl rfl (E.PV.eql rfl rfl rfl) ?_
                    refine E.OW.nil ?_
                    refine E.then_n ?_
                    refine E.CW.cond rfl (fun hc => ?_) (fun hc => ?_)
                    · simp only [E.b0, E.b1, E.b2, E.b3, E.b4, E.b5, E.b6, E.b7, E.b8, E.b9, E.b10, E.b11, E.b12, E.b13, E.b14, E.b15, E.b16, E.b17, E.b18, E.b19, E.b20, reduceCtorEq] at hc
                      all_goals (
                        refine E.CW.region ?_
                        refine E.OW.pure rfl rfl rfl (E.PV.move rfl rfl) ?_
                        refine E.OW.buildSlice (Et := 5) (sz := 1) (ps := [(0, .const (.int .u8 10))]) rfl rfl rfl rfl rfl (by simp) (by unfold maxLen; omega) (fun w => bsl22_1_0 _ w) (fun A13 => ?_)
                        refine E.OW.app_u81 (j := 0) (i := 0) (10) ?_ Try.underlying22 in5 rfl rfl rfl rfl rfl rfl rfl rfl rfl rfl ?_ (fun A14 c14 => ?_); (focus (rfl)); (focus ((first | omega | (simp only [List.length_append, List.length_cons, List.length_nil] at *; omega) | (unfold maxLen at *; omega))))
                        refine E.OW.pure rfl rfl rfl (E.PV.assign rfl rfl) ?_
                        refine E.OW.nil ?_
                        refine E.blk_n ?_
                        refine E.then_n ?_
                        refine E.CW.region ?_
                        refine E.OW.pure rfl rfl rfl (E.PV.add_i64 rfl rfl rfl ?_) ?_; (focus (omega))
                        refine E.OW.pure rfl rfl rfl (E.PV.move rfl rfl) ?_
                        refine E.OW.nil ?_
                        refine E.then_nf ?_
                        refine ⟨_, [(19, _), (6, _)], [0, 0, 0], _, ?_, by repeat (first | exact E.cov_nil | refine ⟨rfl, ?_⟩), rfl, k + 1, _, _, rfl, by rw [Fl.draws_nl (by assumption)]; rfl, by rw [Fl.draws_nl (by assumption)], by omega⟩
                        omega)
                    · simp only [E.b0, E.b1, E.b2, E.b3, E.b4, E.b5, E.b6, E.b7, E.b8, E.b9, E.b10, E.b11, E.b12, E.b13, E.b14, E.b15, E.b16, E.b17, E.b18, E.b19, E.b20, reduceCtorEq] at hc
                      all_goals (
                        refine E.CW.skip ?_
                        refine E.blk_n ?_
                        refine E.then_n ?_
                        refine E.CW.region ?_
                        refine E.OW.pure rfl rfl rfl (E.PV.add_i64 rfl rfl rfl ?_) ?_; (focus (omega))
                        refine E.OW.pure rfl rfl rfl (E.PV.move rfl rfl) ?_
                        refine E.OW.nil ?_
                        refine E.then_nf ?_
                        refine ⟨_, [(19, _), (6, _)], [0, 0, 0], _, ?_, by repeat (first | exact E.cov_nil | refine ⟨rfl, ?_⟩), rfl, k + 1, _, _, rfl, by rw [Fl.draws_no (by assumption)]; rfl, by rw [Fl.draws_no (by assumption)], by omega⟩
                        omega))))
        · simp only [E.b0, E.b1, E.b2, E.b3, E.b4, E.b5, E.b6, E.b7, E.b8, E.b9, E.b10, E.b11, E.b12, E.b13, E.b14, E.b15, E.b16, E.b17, E.b18, E.b19, E.b20, reduceCtorEq] at hc
          all_goals (
            refine E.CW.exit ?_
            refine E.then_x ?_
            refine E.then_x ?_
            refine E.blk_eq ?_
            refine E.then_n ?_
            refine E.CW.seq ?_
            refine E.CW.region ?_
            refine E.OW.pure rfl rfl rfl (E.PV.move rfl rfl) ?_
            refine E.OW.pure rfl rfl rfl (E.PV.b2s Try.underlying22 Try.underlying5 Try.underlying9 (E.rdr (i := 0) rfl) ?_ rfl rfl) ?_; (focus (simp))
            refine E.OW.pure rfl rfl rfl (E.PV.assign rfl rfl) ?_
            refine E.OW.pure rfl rfl rfl (E.PV.assign rfl rfl) ?_
            refine E.OW.nil ?_
            refine E.then_n ?_
            refine E.CW.ret ?_
            refine E.KR.two [] Try.results7 rfl rfl rfl ?_
            obtain rfl : k = l.length := by omega
            exact ⟨by simp [Fl.draw, hv], rfl⟩))

set_option maxRecDepth 100000 in
theorem Parse_ok (l : List UInt8) (w0 : World) (hl : l.length ≤ 140737488355328) :
    Calls Try.prog 8 #[E.sv l] w0 (E.Post w0 (E.Old w0) fun v Hn => ∃ A2 c2, v = .tuple #[.agg #[.int .i64 (Fl.parse l).1.1, .int .i64 (Fl.parse l).1.2.1, .slice A2 (Fl.parse l).1.2.2.length c2], .int .i64 (Fl.parse l).2] ∧ Hn = [E.HP.row 5 1 A2 (Fl.parse l).1.2.2.length c2 (E.u8s (Fl.parse l).1.2.2)]) := by
  refine E.calls_of (vs := [E.sv l]) (H := []) Try.func8 Try.ntmps8 rfl rfl (E.HA.start w0) ?_
  refine E.CW.seq ?_
  refine E.CW.region ?_
  refine E.OW.alloc (in24.zr) rfl rfl rfl rfl rfl (fun B1 => ?_)
  refine E.OW.pure rfl rfl rfl (E.PV.assign rfl rfl) ?_
  refine E.OW.nil ?_
  refine E.then_n ?_
  refine E.CW.seq ?_
  refine E.CW.region ?_
  refine E.OW.alloc (in24.zr) rfl rfl rfl rfl rfl (fun B2 => ?_)
  refine E.OW.nil ?_
  refine E.then_n ?_
  refine E.CW.seq ?_
  refine E.CW.region ?_
  refine E.OW.pure rfl rfl rfl (E.PV.assign rfl rfl) ?_
  refine E.OW.nil ?_
  refine E.then_n ?_
  refine E.CW.seq ?_
  refine E.CW.seq ?_
  refine E.CW.nilrow 5 1 ?_
  refine E.CW.region ?_
  refine E.OW.pure rfl rfl rfl (E.PV.move rfl rfl) ?_
  refine E.OW.range Try.underlying9 rfl rfl rfl rfl rfl (fun B3 => ?_)
  refine E.OW.nil ?_
  refine E.then_n ?_
  refine E.CW.block ?_
  refine E.CW.loopk [2, 4, 10] 3 rfl rfl (fun mm mods Hm => ∃ k : Nat, ∃ n : Int, ∃ W : Int, ∃ H : Int, ∃ cs : List UInt8, ∃ D : Option Addr, ∃ e : Nat, mm = l.length - k ∧ mods = [(5, .int .i64 n)] ∧ Hm = [E.HP.itr B3 l k, E.HP.row 5 1 D cs.length e (E.u8s cs), E.HP.blk B2 24 [.int .i64 W, .int .i64 H, .slice D cs.length e]] ∧ (k ≤ l.length ∧ Fl.scan l k = some (n, W, H, cs) ∧ cs.length ≤ k ∧ 0 ≤ n ∧ n ≤ k ∧ 0 ≤ H ∧ H ≤ k)) (l.length) ?_ ?_
  · exact ⟨[(5, _)], (by repeat (first | exact E.cov_nil | refine ⟨rfl, ?_⟩)), 0, 0, 0, 0, [], none, 0, rfl, rfl, rfl, by omega, rfl, by simp, by omega⟩
  · rintro _ _ _ ⟨k, n, W, H, cs, D, e, rfl, rfl, rfl, hk, hsc, hcl, hn0, hnk, hH0, hHk⟩
    refine E.CW.seq ?_
    refine E.CW.region ?_
    refine E.OW.next (i := 0) rfl rfl rfl rfl rfl rfl (fun hnx hlt8 => ?_) (fun ch pos2 hnx hge8 hch => ?_) (fun hnx => ?_)
    all_goals (refine E.OW.pure rfl rfl rfl (E.PV.extract rfl rfl rfl) ?_)
    all_goals (
      refine E.OW.nil ?_
      refine E.then_n ?_
      refine E.CW.seq ?_
      refine E.CW.cond rfl (fun hc => ?_) (fun hc => ?_)
      · first | ((cases hc; done)) | (simp only [E.b0, E.b1, E.b2, E.b3, E.b4, E.b5, E.b6, E.b7, E.b8, E.b9, E.b10, E.b11, E.b12, E.b13, E.b14, E.b15, E.b16, E.b17, E.b18, E.b19, E.b20, reduceCtorEq] at hc)
        all_goals (
          refine E.CW.skip ?_
          refine E.then_n ?_
          refine E.CW.block ?_
          refine E.CW.seq ?_
          refine E.CW.region ?_
          refine E.OW.pure rfl rfl rfl (E.PV.extract rfl rfl rfl) ?_
          refine E.OW.pure rfl rfl rfl (E.PV.assign rfl rfl) ?_
          refine E.OW.nil ?_
          refine E.then_n ?_
          refine E.CW.seq ?_
          refine E.CW.seq ?_
          refine E.CW.region ?_
          refine E.OW.pure rfl rfl rfl (E.PV.move rfl rfl) ?_
          refine E.OW.nil ?_
          refine E.then_n ?_
          refine E.CW.block ?_
          refine E.CW.seq ?_
          refine E.CW.region ?_
          refine E.OW.pure rfl rfl rfl (E.PV.eql rfl rfl rfl) ?_
          refine E.OW.pure rfl rfl rfl (E.PV.assign rfl rfl) ?_
          refine E.OW.nil ?_
          refine E.then_n ?_
          refine E.CW.cond rfl (fun hc => ?_) (fun hc => ?_)
          · simp only [E.b0, E.b1, E.b2, E.b3, E.b4, E.b5, E.b6, E.b7, E.b8, E.b9, E.b10, E.b11, E.b12, E.b13, E.b14, E.b15, E.b16, E.b17, E.b18, E.b19, E.b20, reduceCtorEq] at hc
            all_goals (try (exfalso; omega))
            all_goals (
              refine E.CW.region ?_
              refine E.OW.pure rfl rfl rfl (E.PV.fieldAddr fa24_2 rfl rfl) ?_
              refine E.OW.pure rfl rfl rfl (E.PV.load (i := 2) na22 rfl rfl rfl rfl) ?_
              refine E.OW.buildSlice (Et := 5) (sz := 1) (ps := [(0, .const (.int .u8 0))]) rfl rfl rfl rfl rfl (by simp) (by unfold maxLen; omega) (fun w => bsl22_1_0 _ w) (fun A4 => ?_)
              refine E.OW.app_u81 (j := 0) (i := 1) (0) ?_ Try.underlying22 in5 rfl rfl rfl rfl rfl rfl rfl rfl rfl rfl ?_ (fun A5 c5 => ?_); (focus (rfl)); (focus ((first | omega | (simp only [List.length_append, List.length_cons, List.length_nil] at *; omega) | (unfold maxLen at *; omega))))
              refine E.OW.pure rfl rfl rfl (E.PV.fieldAddr fa24_2 rfl rfl) ?_
              refine E.OW.store (i := 2) in22.size rfl rfl rfl rfl rfl rfl rfl rfl rfl ?_
              refine E.OW.nil ?_
              refine E.blk_n ?_
              refine E.then_n ?_
              refine E.CW.region ?_
              refine E.OW.pure rfl rfl rfl (E.PV.move rfl rfl) ?_
              refine E.OW.pure rfl rfl rfl (E.PV.add_i64 rfl rfl rfl ?_) ?_; (focus (omega))
              refine E.OW.pure rfl rfl rfl (E.PV.assign rfl rfl) ?_
              refine E.OW.nil ?_
              refine E.blk_n ?_
              refine E.then_nf ?_
              refine ⟨_, [(5, _)], [2, 1, 0, 0], _, ?_, by repeat (first | exact E.cov_nil | refine ⟨rfl, ?_⟩), rfl, k + 1, n + 1, W, H, _, _, _, rfl, rfl, rfl, by omega, Fl.scan_val hsc (Fl.value_wall (by assumption)), by simp; omega, by omega⟩
              omega)
          · simp only [E.b0, E.b1, E.b2, E.b3, E.b4, E.b5, E.b6, E.b7, E.b8, E.b9, E.b10, E.b11, E.b12, E.b13, E.b14, E.b15, E.b16, E.b17, E.b18, E.b19, E.b20, reduceCtorEq] at hc
            all_goals (
              refine E.CW.seq ?_
              refine E.CW.region ?_
              refine E.OW.pure rfl rfl rfl (E.PV.eql rfl rfl rfl) ?_
              refine E.OW.pure rfl rfl rfl (E.PV.assign rfl rfl) ?_
              refine E.OW.nil ?_
              refine E.then_n ?_
              refine E.CW.cond rfl (fun hc => ?_) (fun hc => ?_)
              · simp only [E.b0, E.b1, E.b2, E.b3, E.b4, E.b5, E.b6, E.b7, E.b8, E.b9, E.b10, E.b11, E.b12, E.b13, E.b14, E.b15, E.b16, E.b17, E.b18, E.b19, E.b20, reduceCtorEq] at hc
                all_goals (try (exfalso; omega))
                all_goals (
                  refine E.CW.region ?_
                  refine E.OW.pure rfl rfl rfl (E.PV.fieldAddr fa24_2 rfl rfl) ?_
                  refine E.OW.pure rfl rfl rfl (E.PV.load (i := 2) na22 rfl rfl rfl rfl) ?_
                  refine E.OW.buildSlice (Et := 5) (sz := 1) (ps := [(0, .const (.int .u8 255))]) rfl rfl rfl rfl rfl (by simp) (by unfold maxLen; omega) (fun w => bsl22_1_0 _ w) (fun A6 => ?_)
                  refine E.OW.app_u81 (j := 0) (i := 1) (255) ?_ Try.underlying22 in5 rfl rfl rfl rfl rfl rfl rfl rfl rfl rfl ?_ (fun A7 c7 => ?_); (focus (rfl)); (focus ((first | omega | (simp only [List.length_append, List.length_cons, List.length_nil] at *; omega) | (unfold maxLen at *; omega))))
                  refine E.OW.pure rfl rfl rfl (E.PV.fieldAddr fa24_2 rfl rfl) ?_
                  refine E.OW.store (i := 2) in22.size rfl rfl rfl rfl rfl rfl rfl rfl rfl ?_
                  refine E.OW.nil ?_
                  refine E.blk_n ?_
                  refine E.then_n ?_
                  refine E.CW.region ?_
                  refine E.OW.pure rfl rfl rfl (E.PV.move rfl rfl) ?_
                  refine E.OW.pure rfl rfl rfl (E.PV.add_i64 rfl rfl rfl ?_) ?_; (focus (omega))
                  refine E.OW.pure rfl rfl rfl (E.PV.assign rfl rfl) ?_
                  refine E.OW.nil ?_
                  refine E.blk_n ?_
                  refine E.then_nf ?_
                  refine ⟨_, [(5, _)], [2, 1, 0, 0], _, ?_, by repeat (first | exact E.cov_nil | refine ⟨rfl, ?_⟩), rfl, k + 1, n + 1, W, H, _, _, _, rfl, rfl, rfl, by omega, Fl.scan_val hsc (Fl.value_aisle (by assumption)), by simp; omega, by omega⟩
                  omega)
              · simp only [E.b0, E.b1, E.b2, E.b3, E.b4, E.b5, E.b6, E.b7, E.b8, E.b9, E.b10, E.b11, E.b12, E.b13, E.b14, E.b15, E.b16, E.b17, E.b18, E.b19, E.b20, reduceCtorEq] at hc
                all_goals (
                  refine E.CW.seq ?_
                  refine E.CW.seq ?_
                  refine E.CW.region ?_
                  refine E.OW.pure rfl rfl rfl (E.PV.eql rfl rfl rfl) ?_
                  refine E.OW.pure rfl rfl rfl (E.PV.assign rfl rfl) ?_
                  refine E.OW.nil ?_
                  refine E.then_n ?_
                  refine E.CW.cond rfl (fun hc => ?_) (fun hc => ?_)
                  · simp only [E.b0, E.b1, E.b2, E.b3, E.b4, E.b5, E.b6, E.b7, E.b8, E.b9, E.b10, E.b11, E.b12, E.b13, E.b14, E.b15, E.b16, E.b17, E.b18, E.b19, E.b20, reduceCtorEq] at hc
                    all_goals (try (exfalso; omega))
                    all_goals (
                      refine E.CW.skip ?_
                      refine E.then_n ?_
                      refine E.CW.cond rfl (fun hc => ?_) (fun hc => ?_)
                      · simp only [E.b0, E.b1, E.b2, E.b3, E.b4, E.b5, E.b6, E.b7, E.b8, E.b9, E.b10, E.b11, E.b12, E.b13, E.b14, E.b15, E.b16, E.b17, E.b18, E.b19, E.b20, reduceCtorEq] at hc
                        all_goals (
                          have hv47 := Fl.value_ten (c := l.getD k 0) (by omega)
                          have hs47 := Fl.sub47 (c := l.getD k 0) (by omega)
                          refine E.CW.region ?_
                          refine E.OW.pure rfl rfl rfl (E.PV.fieldAddr fa24_2 rfl rfl) ?_
                          refine E.OW.pure rfl rfl rfl (E.PV.load (i := 2) na22 rfl rfl rfl rfl) ?_
                          refine E.OW.pure rfl rfl rfl (E.PV.move rfl rfl) ?_
                          refine E.OW.pure rfl rfl rfl (E.PV.sub rfl rfl rfl) ?_
                          refine E.OW.pure rfl rfl rfl (E.PV.conv Try.underlying21 Try.underlying5 rfl rfl) ?_
                          refine E.OW.pure rfl rfl rfl (E.PV.add rfl rfl rfl) ?_
                          refine E.OW.buildSlice (Et := 5) (sz := 1) (ps := [(0, .tmp 39)]) rfl rfl rfl rfl rfl (by simp) (by unfold maxLen; omega) (fun w => bsl22_1_0 _ w) (fun A8 => ?_)
                          refine E.OW.app_u81 (j := 0) (i := 1) (l.getD k 0 - 47) ?_ Try.underlying22 in5 rfl rfl rfl rfl rfl rfl rfl rfl rfl rfl ?_ (fun A9 c9 => ?_); (focus ((rw [hs47]; simp only [IntKind.wrap_u8, IntKind.wrap_i32]; omega))); (focus ((first | omega | (simp only [List.length_append, List.length_cons, List.length_nil] at *; omega) | (unfold maxLen at *; omega))))
                          refine E.OW.pure rfl rfl rfl (E.PV.fieldAddr fa24_2 rfl rfl) ?_
                          refine E.OW.store (i := 2) in22.size rfl rfl rfl rfl rfl rfl rfl rfl rfl ?_
                          refine E.OW.nil ?_
                          refine E.blk_n ?_
                          refine E.then_n ?_
                          refine E.CW.region ?_
                          refine E.OW.pure rfl rfl rfl (E.PV.move rfl rfl) ?_
                          refine E.OW.pure rfl rfl rfl (E.PV.add_i64 rfl rfl rfl ?_) ?_; (focus (omega))
                          refine E.OW.pure rfl rfl rfl (E.PV.assign rfl rfl) ?_
                          refine E.OW.nil ?_
                          refine E.blk_n ?_
                          refine E.then_nf ?_
                          refine ⟨_, [(5, _)], [2, 1, 0, 0], _, ?_, by repeat (first | exact E.cov_nil | refine ⟨rfl, ?_⟩), rfl, k + 1, n + 1, W, H, _, _, _, rfl, rfl, rfl, by omega, Fl.scan_val hsc hv47, by simp; omega, by omega⟩
                          omega)
                      · simp only [E.b0, E.b1, E.b2, E.b3, E.b4, E.b5, E.b6, E.b7, E.b8, E.b9, E.b10, E.b11, E.b12, E.b13, E.b14, E.b15, E.b16, E.b17, E.b18, E.b19, E.b20, reduceCtorEq] at hc
                        all_goals (exfalso; contradiction))
                  · simp only [E.b0, E.b1, E.b2, E.b3, E.b4, E.b5, E.b6, E.b7, E.b8, E.b9, E.b10, E.b11, E.b12, E.b13, E.b14, E.b15, E.b16, E.b17, E.b18, E.b19, E.b20, reduceCtorEq] at hc
                    all_goals (
                      refine E.CW.seq ?_
                      refine E.CW.region ?_
                      refine E.OW.pure rfl rfl rfl (E.PV.eql rfl rfl rfl) ?_
                      refine E.OW.pure rfl rfl rfl (E.PV.assign rfl rfl) ?_
                      refine E.OW.nil ?_
                      refine E.then_n ?_
                      refine E.CW.cond rfl (fun hc => ?_) (fun hc => ?_)
                      · simp only [E.b0, E.b1, E.b2, E.b3, E.b4, E.b5, E.b6, E.b7, E.b8, E.b9, E.b10, E.b11, E.b12, E.b13, E.b14, E.b15, E.b16, E.b17, E.b18, E.b19, E.b20, reduceCtorEq] at hc
                        all_goals (try (exfalso; omega))
                        all_goals (
                          refine E.CW.skip ?_
                          refine E.then_n ?_
                          refine E.CW.cond rfl (fun hc => ?_) (fun hc => ?_)
                          · simp only [E.b0, E.b1, E.b2, E.b3, E.b4, E.b5, E.b6, E.b7, E.b8, E.b9, E.b10, E.b11, E.b12, E.b13, E.b14, E.b15, E.b16, E.b17, E.b18, E.b19, E.b20, reduceCtorEq] at hc
                            all_goals (
                              have hv47 := Fl.value_ten (c := l.getD k 0) (by omega)
                              have hs47 := Fl.sub47 (c := l.getD k 0) (by omega)
                              refine E.CW.region ?_
                              refine E.OW.pure rfl rfl rfl (E.PV.fieldAddr fa24_2 rfl rfl) ?_
                              refine E.OW.pure rfl rfl rfl (E.PV.load (i := 2) na22 rfl rfl rfl rfl) ?_
                              refine E.OW.pure rfl rfl rfl (E.PV.move rfl rfl) ?_
                              refine E.OW.pure rfl rfl rfl (E.PV.sub rfl rfl rfl) ?_
                              refine E.OW.pure rfl rfl rfl (E.PV.conv Try.underlying21 Try.underlying5 rfl rfl) ?_
                              refine E.OW.pure rfl rfl rfl (E.PV.add rfl rfl rfl) ?_
                              refine E.OW.buildSlice (Et := 5) (sz := 1) (ps := [(0, .tmp 39)]) rfl rfl rfl rfl rfl (by simp) (by unfold maxLen; omega) (fun w => bsl22_1_0 _ w) (fun A10 => ?_)
                              refine E.OW.app_u81 (j := 0) (i := 1) (l.getD k 0 - 47) ?_ Try.underlying22 in5 rfl rfl rfl rfl rfl rfl rfl rfl rfl rfl ?_ (fun A11 c11 => ?_); (focus ((rw [hs47]; simp only [IntKind.wrap_u8, IntKind.wrap_i32]; omega))); (focus ((first | omega | (simp only [List.length_append, List.length_cons, List.length_nil] at *; omega) | (unfold maxLen at *; omega))))
                              refine E.OW.pure rfl rfl rfl (E.PV.fieldAddr fa24_2 rfl rfl) ?_
                              refine E.OW.store (i := 2) in22.size rfl rfl rfl rfl rfl rfl rfl rfl rfl ?_
                              refine E.OW.nil ?_
                              refine E.blk_n ?_
                              refine E.then_n ?_
                              refine E.CW.region ?_
                              refine E.OW.pure rfl rfl rfl (E.PV.move rfl rfl) ?_
                              refine E.OW.pure rfl rfl rfl (E.PV.add_i64 rfl rfl rfl ?_) ?_; (focus (omega))
                              refine E.OW.pure rfl rfl rfl (E.PV.assign rfl rfl) ?_
                              refine E.OW.nil ?_
                              refine E.blk_n ?_
                              refine E.then_nf ?_
                              refine ⟨_, [(5, _)], [2, 1, 0, 0], _, ?_, by repeat (first | exact E.cov_nil | refine ⟨rfl, ?_⟩), rfl, k + 1, n + 1, W, H, _, _, _, rfl, rfl, rfl, by omega, Fl.scan_val hsc hv47, by simp; omega, by omega⟩
                              omega)
                          · simp only [E.b0, E.b1, E.b2, E.b3, E.b4, E.b5, E.b6, E.b7, E.b8, E.b9, E.b10, E.b11, E.b12, E.b13, E.b14, E.b15, E.b16, E.b17, E.b18, E.b19, E.b20, reduceCtorEq] at hc
                            all_goals (exfalso; contradiction))
                      · simp only [E.b0, E.b1, E.b2, E.b3, E.b4, E.b5, E.b6, E.b7, E.b8, E.b9, E.b10, E.b11, E.b12, E.b13, E.b14, E.b15, E.b16, E.b17, E.b18, E.b19, E.b20, reduceCtorEq] at hc
                        all_goals (
                          refine E.CW.region ?_
                          refine E.OW.pure rfl rfl rfl (E.PV.eql rfl rfl rfl) ?_
                          refine E.OW.pure rfl rfl rfl (E.PV.assign rfl rfl) ?_
                          refine E.OW.nil ?_
                          refine E.then_n ?_
                          refine E.CW.cond rfl (fun hc => ?_) (fun hc => ?_)
                          · simp only [E.b0, E.b1, E.b2, E.b3, E.b4, E.b5, E.b6, E.b7, E.b8, E.b9, E.b10, E.b11, E.b12, E.b13, E.b14, E.b15, E.b16, E.b17, E.b18, E.b19, E.b20, reduceCtorEq] at hc
                            all_goals (try (exfalso; omega))
                            all_goals (
                              have hv47 := Fl.value_ten (c := l.getD k 0) (by omega)
                              have hs47 := Fl.sub47 (c := l.getD k 0) (by omega)
                              refine E.CW.region ?_
                              refine E.OW.pure rfl rfl rfl (E.PV.fieldAddr fa24_2 rfl rfl) ?_
                              refine E.OW.pure rfl rfl rfl (E.PV.load (i := 2) na22 rfl rfl rfl rfl) ?_
                              refine E.OW.pure rfl rfl rfl (E.PV.move rfl rfl) ?_
                              refine E.OW.pure rfl rfl rfl (E.PV.sub rfl rfl rfl) ?_
                              refine E.OW.pure rfl rfl rfl (E.PV.conv Try.underlying21 Try.underlying5 rfl rfl) ?_
                              refine E.OW.pure rfl rfl rfl (E.PV.add rfl rfl rfl) ?_
                              refine E.OW.buildSlice (Et := 5) (sz := 1) (ps := [(0, .tmp 39)]) rfl rfl rfl rfl rfl (by simp) (by unfold maxLen; omega) (fun w => bsl22_1_0 _ w) (fun A12 => ?_)
                              refine E.OW.app_u81 (j := 0) (i := 1) (l.getD k 0 - 47) ?_ Try.underlying22 in5 rfl rfl rfl rfl rfl rfl rfl rfl rfl rfl ?_ (fun A13 c13 => ?_); (focus ((rw [hs47]; simp only [IntKind.wrap_u8, IntKind.wrap_i32]; omega))); (focus ((first | omega | (simp only [List.length_append, List.length_cons, List.length_nil] at *; omega) | (unfold maxLen at *; omega))))
                              refine E.OW.pure rfl rfl rfl (E.PV.fieldAddr fa24_2 rfl rfl) ?_
                              refine E.OW.store (i := 2) in22.size rfl rfl rfl rfl rfl rfl rfl rfl rfl ?_
                              refine E.OW.nil ?_
                              refine E.blk_n ?_
                              refine E.then_n ?_
                              refine E.CW.region ?_
                              refine E.OW.pure rfl rfl rfl (E.PV.move rfl rfl) ?_
                              refine E.OW.pure rfl rfl rfl (E.PV.add_i64 rfl rfl rfl ?_) ?_; (focus (omega))
                              refine E.OW.pure rfl rfl rfl (E.PV.assign rfl rfl) ?_
                              refine E.OW.nil ?_
                              refine E.blk_n ?_
                              refine E.then_nf ?_
                              refine ⟨_, [(5, _)], [2, 1, 0, 0], _, ?_, by repeat (first | exact E.cov_nil | refine ⟨rfl, ?_⟩), rfl, k + 1, n + 1, W, H, _, _, _, rfl, rfl, rfl, by omega, Fl.scan_val hsc hv47, by simp; omega, by omega⟩
                              omega)
                          · simp only [E.b0, E.b1, E.b2, E.b3, E.b4, E.b5, E.b6, E.b7, E.b8, E.b9, E.b10, E.b11, E.b12, E.b13, E.b14, E.b15, E.b16, E.b17, E.b18, E.b19, E.b20, reduceCtorEq] at hc
                            all_goals (
                              refine E.CW.seq ?_
                              refine E.CW.region ?_
                              refine E.OW.pure rfl rfl rfl (E.PV.eql rfl rfl rfl) ?_
                              refine E.OW.pure rfl rfl rfl (E.PV.assign rfl rfl) ?_
                              refine E.OW.nil ?_
                              refine E.then_n ?_
                              refine E.CW.cond rfl (fun hc => ?_) (fun hc => ?_)
                              · simp only [E.b0, E.b1, E.b2, E.b3, E.b4, E.b5, E.b6, E.b7, E.b8, E.b9, E.b10, E.b11, E.b12, E.b13, E.b14, E.b15, E.b16, E.b17, E.b18, E.b19, E.b20, reduceCtorEq] at hc
                                all_goals (try (exfalso; omega))
                                all_goals (
                                  refine E.CW.seq ?_
                                  refine E.CW.seq ?_
                                  refine E.CW.region ?_
                                  refine E.OW.pure rfl rfl rfl (E.PV.fieldAddr fa24_1 rfl rfl) ?_
                                  refine E.OW.pure rfl rfl rfl (E.PV.load (i := 2) na3 rfl rfl rfl rfl) ?_
                                  refine E.OW.pure rfl rfl rfl (E.PV.gtr rfl rfl rfl) ?_
                                  refine E.OW.pure rfl rfl rfl (E.PV.move rfl rfl) ?_
                                  all_goals (refine E.OW.split 48 rfl (fun hc => ?_) (fun hc => ?_) <;> (try simp only [E.b0, E.b1, E.b2, E.b3, E.b4, E.b5, E.b6, E.b7, E.b8, E.b9, E.b10, E.b11, E.b12, E.b13, E.b14, E.b15, E.b16, E.b17, E.b18, E.b19, E.b20, reduceCtorEq] at hc) <;> (try (exfalso; first | assumption | contradiction | omega)))
                                  all_goals (first | (refine E.OW.off rfl rfl rfl ?_) | (refine E.OW.pure rfl rfl rfl (E.PV.move rfl rfl) ?_))
                                  all_goals (first | (refine E.OW.off rfl rfl rfl ?_) | (refine E.OW.pure rfl rfl rfl (E.PV.fieldAddr fa24_0 rfl rfl) ?_))
                                  all_goals (first | (refine E.OW.off rfl rfl rfl ?_) | (refine E.OW.pure rfl rfl rfl (E.PV.load (i := 2) na3 rfl rfl rfl rfl) ?_))
                                  all_goals (first | (refine E.OW.off rfl rfl rfl ?_) | (refine E.OW.pure rfl rfl rfl (E.PV.neq rfl rfl rfl) ?_))
                                  all_goals (first | (refine E.OW.pure rfl rfl rfl (E.PV.pick_t rfl rfl rfl) ?_) | (refine E.OW.pure rfl rfl rfl (E.PV.pick_f rfl rfl rfl) ?_))
                                  all_goals (
                                    refine E.OW.nil ?_
                                    refine E.then_n ?_
                                    refine E.CW.cond rfl (fun hc => ?_) (fun hc => ?_)
                                    · first | ((cases hc; done)) | (simp only [E.b0, E.b1, E.b2, E.b3, E.b4, E.b5, E.b6, E.b7, E.b8, E.b9, E.b10, E.b11, E.b12, E.b13, E.b14, E.b15, E.b16, E.b17, E.b18, E.b19, E.b20, reduceCtorEq] at hc)
                                      all_goals (
                                        refine E.CW.seq ?_
                                        refine E.CW.nilrow 5 1 ?_
                                        refine E.CW.region ?_
                                        refine E.OW.pure rfl rfl rfl (E.PV.build (ps := []) rfl rfl (fun w => bld24_ w)) ?_
                                        refine E.OW.store (i := 4) in24.size rfl rfl rfl rfl rfl rfl rfl rfl rfl ?_
                                        refine E.OW.pure rfl rfl rfl (E.PV.assign rfl rfl) ?_
                                        refine E.OW.nil ?_
                                        refine E.then_n ?_
                                        refine E.CW.ret ?_
                                        refine E.then_ret ?_
                                        refine E.blk_ret ?_
                                        refine E.then_ret ?_
                                        refine E.blk_ret ?_
                                        refine E.then_ret ?_
                                        refine E.blk_ret ?_
                                        refine E.then_ret ?_
                                        refine E.KR.rv2 [1] Try.results8 (E.rv.cell is24 rfl (E.sli 0 rfl) rfl) rfl rfl ?_
                                        have hb := Fl.parse_nl (by omega) hsc (by assumption) (by omega)
                                        rw [hb]
                                        exact ⟨none, 0, rfl, rfl⟩)
                                    · simp only [E.b0, E.b1, E.b2, E.b3, E.b4, E.b5, E.b6, E.b7, E.b8, E.b9, E.b10, E.b11, E.b12, E.b13, E.b14, E.b15, E.b16, E.b17, E.b18, E.b19, E.b20, reduceCtorEq] at hc
                                      all_goals (
                                        refine E.CW.skip ?_
                                        refine E.then_n ?_
                                        refine E.CW.seq ?_
                                        refine E.CW.region ?_
                                        refine E.OW.pure rfl rfl rfl (E.PV.move rfl rfl) ?_
                                        refine E.OW.pure rfl rfl rfl (E.PV.fieldAddr fa24_1 rfl rfl) ?_
                                        refine E.OW.pure rfl rfl rfl (E.PV.load (i := 2) na3 rfl rfl rfl rfl) ?_
                                        refine E.OW.pure rfl rfl rfl (E.PV.add_i64 rfl rfl rfl ?_) ?_; (focus (omega))
                                        refine E.OW.pure rfl rfl rfl (E.PV.fieldAddr fa24_0 rfl rfl) ?_
                                        refine E.OW.store (i := 2) in3.size rfl rfl rfl rfl rfl rfl rfl rfl rfl ?_
                                        refine E.OW.pure rfl rfl rfl (E.PV.fieldAddr fa24_1 rfl rfl) ?_
                                        refine E.OW.store (i := 0) in3.size rfl rfl rfl rfl rfl rfl rfl rfl rfl ?_
                                        refine E.OW.nil ?_
                                        refine E.then_n ?_
                                        refine E.CW.seq ?_
                                        refine E.CW.region ?_
                                        refine E.OW.pure rfl rfl rfl (E.PV.assign rfl rfl) ?_
                                        refine E.OW.nil ?_
                                        refine E.then_n ?_
                                        refine E.CW.exit ?_
                                        refine E.blk_ne rfl ?_
                                        refine E.then_x ?_
                                        refine E.blk_eq ?_
                                        refine E.then_nf ?_
                                        refine ⟨_, [(5, _)], [1, 1, 0, 0], _, ?_, by repeat (first | exact E.cov_nil | refine ⟨rfl, ?_⟩), rfl, k + 1, 0, n, H + 1, cs, _, _, rfl, rfl, rfl, by omega, Fl.scan_nl hsc (by assumption) (by omega), by omega, by omega⟩
                                        omega)))
                              · simp only [E.b0, E.b1, E.b2, E.b3, E.b4, E.b5, E.b6, E.b7, E.b8, E.b9, E.b10, E.b11, E.b12, E.b13, E.b14, E.b15, E.b16, E.b17, E.b18, E.b19, E.b20, reduceCtorEq] at hc
                                all_goals (
                                  refine E.CW.seq ?_
                                  refine E.CW.nilrow 5 1 ?_
                                  refine E.CW.region ?_
                                  refine E.OW.pure rfl rfl rfl (E.PV.build (ps := []) rfl rfl (fun w => bld24_ w)) ?_
                                  refine E.OW.store (i := 4) in24.size rfl rfl rfl rfl rfl rfl rfl rfl rfl ?_
                                  refine E.OW.pure rfl rfl rfl (E.PV.assign rfl rfl) ?_
                                  refine E.OW.nil ?_
                                  refine E.then_n ?_
                                  refine E.CW.ret ?_
                                  refine E.blk_ret ?_
                                  refine E.then_ret ?_
                                  refine E.blk_ret ?_
                                  refine E.then_ret ?_
                                  refine E.blk_ret ?_
                                  refine E.then_ret ?_
                                  refine E.KR.rv2 [1] Try.results8 (E.rv.cell is24 rfl (E.sli 0 rfl) rfl) rfl rfl ?_
                                  have hb := Fl.parse_bad (by omega) hsc (by omega) (Fl.value_not (by omega) (by omega) (by omega))
                                  rw [hb]
                                  exact ⟨none, 0, rfl, rfl⟩)))))))
      · first | ((cases hc; done)) | (simp only [E.b0, E.b1, E.b2, E.b3, E.b4, E.b5, E.b6, E.b7, E.b8, E.b9, E.b10, E.b11, E.b12, E.b13, E.b14, E.b15, E.b16, E.b17, E.b18, E.b19, E.b20, reduceCtorEq] at hc)
        all_goals (
          refine E.CW.exit ?_
          refine E.then_x ?_
          refine E.then_x ?_
          refine E.blk_eq ?_
          refine E.then_n ?_
          refine E.CW.seq ?_
          refine E.CW.seq ?_
          refine E.CW.region ?_
          refine E.OW.pure rfl rfl rfl (E.PV.move rfl rfl) ?_
          refine E.OW.pure rfl rfl rfl (E.PV.gtr rfl rfl rfl) ?_
          refine E.OW.nil ?_
          refine E.then_n ?_
          refine E.CW.cond rfl (fun hc => ?_) (fun hc => ?_)
          · simp only [E.b0, E.b1, E.b2, E.b3, E.b4, E.b5, E.b6, E.b7, E.b8, E.b9, E.b10, E.b11, E.b12, E.b13, E.b14, E.b15, E.b16, E.b17, E.b18, E.b19, E.b20, reduceCtorEq] at hc
            all_goals (
              refine E.CW.seq ?_
              refine E.CW.nilrow 5 1 ?_
              refine E.CW.region ?_
              refine E.OW.pure rfl rfl rfl (E.PV.build (ps := []) rfl rfl (fun w => bld24_ w)) ?_
              refine E.OW.store (i := 4) in24.size rfl rfl rfl rfl rfl rfl rfl rfl rfl ?_
              refine E.OW.pure rfl rfl rfl (E.PV.assign rfl rfl) ?_
              refine E.OW.nil ?_
              refine E.then_n ?_
              refine E.CW.ret ?_
              refine E.then_ret ?_
              refine E.KR.rv2 [1] Try.results8 (E.rv.cell is24 rfl (E.sli 0 rfl) rfl) rfl rfl ?_
              have hb := Fl.parse_end (by omega) hsc (by assumption)
              rw [hb]
              exact ⟨none, 0, rfl, rfl⟩)
          · simp only [E.b0, E.b1, E.b2, E.b3, E.b4, E.b5, E.b6, E.b7, E.b8, E.b9, E.b10, E.b11, E.b12, E.b13, E.b14, E.b15, E.b16, E.b17, E.b18, E.b19, E.b20, reduceCtorEq] at hc
            all_goals (
              refine E.CW.skip ?_
              refine E.then_n ?_
              refine E.CW.seq ?_
              refine E.CW.seq ?_
              refine E.CW.region ?_
              refine E.OW.pure rfl rfl rfl (E.PV.loads (i := 2) is24 rfl rfl rfl rfl) ?_
              (refine E.OW.call nm19 rfl rfl rfl rfl rfl rfl _ (fun w hw => Check_ok _ _ _ _ _ w ?_ ?_) ?_; (focus (omega)); (focus (exact hw.rdrow (i := 1) rfl)); rintro _ _ ⟨rfl, rfl⟩)
              refine E.OW.pure rfl rfl rfl (E.PV.assign rfl rfl) ?_
              refine E.OW.nil ?_
              refine E.then_n ?_
              refine E.CW.seq ?_
              refine E.CW.region ?_
              refine E.OW.pure rfl rfl rfl (E.PV.move rfl rfl) ?_
              refine E.OW.pure rfl rfl rfl (E.PV.neq rfl rfl rfl) ?_
              refine E.OW.nil ?_
              refine E.then_n ?_
              refine E.CW.cond rfl (fun hc => ?_) (fun hc => ?_)
              · simp only [E.b0, E.b1, E.b2, E.b3, E.b4, E.b5, E.b6, E.b7, E.b8, E.b9, E.b10, E.b11, E.b12, E.b13, E.b14, E.b15, E.b16, E.b17, E.b18, E.b19, E.b20, reduceCtorEq] at hc
                all_goals (
                  refine E.CW.seq ?_
                  refine E.CW.nilrow 5 1 ?_
                  refine E.CW.region ?_
                  refine E.OW.pure rfl rfl rfl (E.PV.build (ps := []) rfl rfl (fun w => bld24_ w)) ?_
                  refine E.OW.pure rfl rfl rfl (E.PV.move rfl rfl) ?_
                  refine E.OW.store (i := 4) in24.size rfl rfl rfl rfl rfl rfl rfl rfl rfl ?_
                  refine E.OW.pure rfl rfl rfl (E.PV.assign rfl rfl) ?_
                  refine E.OW.nil ?_
                  refine E.then_n ?_
                  refine E.CW.ret ?_
                  refine E.then_ret ?_
                  refine E.KR.rv2 [1] Try.results8 (E.rv.cell is24 rfl (E.sli 0 rfl) rfl) rfl rfl ?_
                  have e : Fl.validF W H cs = false ∧ Fl.checkF W H cs = 50 := by (cases hq : Fl.validF W H cs <;> simp_all [Fl.checkF])
                  have hb := Fl.parse_inv (by omega) hsc (by omega) e.1
                  rw [hb, e.2]
                  exact ⟨none, 0, rfl, rfl⟩)
              · simp only [E.b0, E.b1, E.b2, E.b3, E.b4, E.b5, E.b6, E.b7, E.b8, E.b9, E.b10, E.b11, E.b12, E.b13, E.b14, E.b15, E.b16, E.b17, E.b18, E.b19, E.b20, reduceCtorEq] at hc
                all_goals (
                  refine E.CW.skip ?_
                  refine E.then_n ?_
                  refine E.CW.seq ?_
                  refine E.CW.region ?_
                  refine E.OW.pure rfl rfl rfl (E.PV.loads (i := 2) is24 rfl rfl rfl rfl) ?_
                  refine E.OW.store (i := 3) in24.size rfl rfl rfl rfl rfl rfl rfl rfl rfl ?_
                  refine E.OW.pure rfl rfl rfl (E.PV.assign rfl rfl) ?_
                  refine E.OW.nil ?_
                  refine E.then_n ?_
                  refine E.CW.ret ?_
                  refine E.KR.rv2 [2] Try.results8 (E.rv.cell is24 rfl (E.sli 0 rfl) rfl) rfl rfl ?_
                  have hb := Fl.parse_ok (by omega) hsc (by omega) (Fl.checkF_zero.1 (by assumption))
                  rw [hb]
                  exact ⟨_, _, rfl, rfl⟩))))
end Go.Proofs.Yteibcphdbkgcgaa
