/- Walks (printed by gen.py). -/
import Derived.Test.YtbofflmmgokkhaaG6
import Derived.Test.YtbofflmmgokkhaaFlX
namespace Go.Proofs.Ytbofflmmgokkhaa
open Go Go.RowKit
set_option linter.unusedSimpArgs false
set_option linter.unusedVariables false

theorem DrawT_ok (a b : Int) (A : Option Addr) (c : Nat) (l : List UInt8) (n : Nat) (w0 : World) (hn : n = l.length) (hl : l.length ≤ 140737488355328) (hX : E.Rd w0 (E.Old w0) A (E.u8s l)) :
    Calls Try.prog 50 #[.agg #[.int .i64 a, .int .i64 b, .slice A n c]] w0 (E.Post w0 (E.Old w0) fun v Hn => v = .tuple #[E.sv (Fl.draw a b l).1, .int .i64 (Fl.draw a b l).2] ∧ Hn = []) := by
  subst hn; exact Draw_ok a b A c l w0 hl hX
theorem OwnerT_ok (a b : Int) (A : Option Addr) (c : Nat) (l : List UInt8) (p : Int) (n : Nat) (w0 : World) (hn : n = l.length) (hl : l.length ≤ 140737488355328) (hX : E.Rd w0 (E.Old w0) A (E.u8s l)) :
    Calls Try.prog 40 #[.agg #[.int .i64 a, .int .i64 b, .slice A n c], .int .i64 p] w0 (E.Post w0 (E.Old w0) fun v Hn => v = .tuple #[.int .i64 (Fl.owner a b l p).1, .int .i64 (Fl.owner a b l p).2] ∧ Hn = []) := by
  subst hn; exact Owner_ok a b A c l p w0 hl hX

set_option maxRecDepth 100000 in
theorem FloorTransposed_ok (a b : Int) (A : Option Addr) (c : Nat) (l : List UInt8) (p q : Int) (w0 : World) (hl : l.length ≤ 140737488355328) (hX : E.Rd w0 (E.Old w0) A (E.u8s l)) :
    Calls Try.prog 17 #[.agg #[.int .i64 a, .int .i64 b, .slice A l.length c], .int .i64 p, .int .i64 q] w0 (E.Post w0 (E.Old w0) fun v Hn => v = .bool true ∧ Hn = []) := by
  refine E.calls_of (vs := [.agg #[.int .i64 a, .int .i64 b, .slice A l.length c], .int .i64 p, .int .i64 q]) (H := []) Try.func17 Try.ntmps17 rfl rfl (E.HA.start w0) ?_
  refine E.CW.seq ?_
  refine E.CW.region ?_
  refine E.OW.box rfl rfl rfl rfl rfl rfl (fun B1 => ?_)
  refine E.OW.pure rfl rfl rfl (E.PV.assign rfl rfl) ?_
  refine E.OW.nil ?_
  refine E.then_n ?_
  refine E.CW.seq ?_
  refine E.CW.region ?_
  (refine E.OW.call nm54 rfl rfl rfl rfl rfl rfl _ (fun w hw => alive_ok w) ?_; rintro _ _ ⟨rfl, rfl⟩)
  refine E.OW.pure rfl rfl rfl (E.PV.assign rfl rfl) ?_
  refine E.OW.nil ?_
  refine E.then_n ?_
  refine E.CW.seq ?_
  refine E.CW.seq ?_
  refine E.CW.region ?_
  refine E.OW.pure rfl rfl rfl (E.PV.loads (i := 0) is48 rfl rfl rfl rfl) ?_
  (refine E.OW.call nm57 rfl rfl rfl rfl rfl rfl _ (fun w hw => rValidFloor_ok _ _ _ _ _ w ?_ ?_) ?_; (focus (assumption)); (focus (refine hw.rd ?_; assumption)); rintro _ _ ⟨rfl, rfl⟩)
  refine E.OW.pure rfl rfl rfl (E.PV.not rfl rfl) ?_
  refine E.OW.pure rfl rfl rfl (E.PV.move rfl rfl) ?_
  all_goals (refine E.OW.split 30 rfl (fun hc => ?_) (fun hc => ?_) <;> (try simp only [E.b0, E.b1, E.b2, E.b3, E.b4, E.b5, E.b6, E.b7, E.b8, E.b9, E.b10, E.b11, E.b12, E.b13, E.b14, E.b15, E.b16, E.b17, E.b18, E.b19, E.b20, reduceCtorEq] at hc) <;> (try (exfalso; first | assumption | contradiction | omega)))
  all_goals (first | (refine E.OW.off rfl rfl rfl ?_) | (refine E.OW.pure rfl rfl rfl (E.PV.move rfl rfl) ?_))
  all_goals (first | (refine E.OW.off rfl rfl rfl ?_) | (refine E.OW.pure rfl rfl rfl (E.PV.not rfl rfl) ?_))
  all_goals (first | (refine E.OW.pure rfl rfl rfl (E.PV.pick_t rfl rfl rfl) ?_) | (refine E.OW.pure rfl rfl rfl (E.PV.pick_f rfl rfl rfl) ?_))
  all_goals (
    refine E.OW.nil ?_
    refine E.then_n ?_
    refine E.CW.cond rfl (fun hc => ?_) (fun hc => ?_)
    · first | ((cases hc; done)) | (simp only [E.b0, E.b1, E.b2, E.b3, E.b4, E.b5, E.b6, E.b7, E.b8, E.b9, E.b10, E.b11, E.b12, E.b13, E.b14, E.b15, E.b16, E.b17, E.b18, E.b19, E.b20, reduceCtorEq] at hc)
      all_goals (
        refine E.CW.seq ?_
        refine E.CW.region ?_
        refine E.OW.pure rfl rfl rfl (E.PV.move rfl rfl) ?_
        refine E.OW.pure rfl rfl rfl (E.PV.assign rfl rfl) ?_
        refine E.OW.nil ?_
        refine E.then_n ?_
        refine E.CW.ret ?_
        refine E.then_ret ?_
        refine E.KR.one [] Try.results17 rfl rfl ?_
        exact ⟨by first | rfl | (simp; done) | (simp; omega), rfl⟩)
    · first | ((cases hc; done)) | (simp only [E.b0, E.b1, E.b2, E.b3, E.b4, E.b5, E.b6, E.b7, E.b8, E.b9, E.b10, E.b11, E.b12, E.b13, E.b14, E.b15, E.b16, E.b17, E.b18, E.b19, E.b20, reduceCtorEq] at hc)
      all_goals (
        refine E.CW.skip ?_
        refine E.then_n ?_
        refine E.CW.seq ?_
        refine E.CW.region ?_
        refine E.OW.pure rfl rfl rfl (E.PV.fieldAddr fa48_1 rfl rfl) ?_
        refine E.OW.pure rfl rfl rfl (E.PV.load (i := 0) na3 rfl rfl rfl rfl) ?_
        refine E.OW.pure rfl rfl rfl (E.PV.fieldAddr fa48_0 rfl rfl) ?_
        refine E.OW.pure rfl rfl rfl (E.PV.load (i := 0) na3 rfl rfl rfl rfl) ?_
        refine E.OW.pure rfl rfl rfl (E.PV.build (ps := [(0, .tmp 36), (1, .tmp 38)]) rfl rfl (fun w => bld48_0_1 _ _ w)) ?_
        refine E.OW.alloc (in48.zr) rfl rfl rfl rfl rfl (fun B2 => ?_)
        refine E.OW.store (i := 0) in48.size rfl rfl rfl rfl rfl rfl rfl rfl rfl ?_
        refine E.OW.nil ?_
        refine E.then_n ?_
        refine E.CW.seq ?_
        refine E.CW.seq ?_
        refine E.CW.nilrow 5 1 ?_
        have hv : Fl.validF a b l = true := by assumption
        have h64 := Fl.validF_len hv
        have hvv := Fl.valid_iff.1 (Fl.validF_iff.1 hv).1.1
        have hlen := (Fl.validF_iff.1 hv).1.2
        have hvt := Fl.tr_valid hv
        refine E.CW.region ?_
        refine E.OW.pure rfl rfl rfl (E.PV.assign rfl rfl) ?_
        refine E.OW.nil ?_
        refine E.then_n ?_
        refine E.CW.block ?_
        refine E.CW.loopk [1, 2, 3, 7, 8] 2 rfl rfl (fun mm mods Hm => ∃ k : Nat, ∃ D : Option Addr, ∃ e : Nat, mm = l.length - k ∧ mods = [(9, .int .i64 k)] ∧ Hm = [E.HP.row 5 1 D (Fl.tr a b l k).length e (E.u8s (Fl.tr a b l k)), E.HP.blk B2 48 [.int .i64 b, .int .i64 a, .slice D (Fl.tr a b l k).length e]] ∧ k ≤ l.length) (l.length) ?_ ?_
        · exact ⟨[(9, _)], (by repeat (first | exact E.cov_nil | refine ⟨rfl, ?_⟩)), 0, none, 0, rfl, rfl, rfl, by omega⟩
        · rintro _ _ _ ⟨k, D, e, rfl, rfl, rfl, hk⟩
          have htl := Fl.tr_len a b l k
          refine E.CW.seq ?_
          refine E.CW.seq ?_
          refine E.CW.region ?_
          refine E.OW.pure rfl rfl rfl (E.PV.move rfl rfl) ?_
          refine E.OW.pure rfl rfl rfl (E.PV.fieldAddr fa48_2 rfl rfl) ?_
          refine E.OW.pure rfl rfl rfl (E.PV.load (i := 2) na22 rfl rfl rfl rfl) ?_
          refine E.OW.pure rfl rfl rfl (E.PV.len Try.underlying22 rfl rfl) ?_
          refine E.OW.pure rfl rfl rfl (E.PV.lss rfl rfl rfl) ?_
          refine E.OW.nil ?_
          refine E.then_n ?_
          refine E.CW.cond rfl (fun hc => ?_) (fun hc => ?_)
          · simp only [E.b0, E.b1, E.b2, E.b3, E.b4, E.b5, E.b6, E.b7, E.b8, E.b9, E.b10, E.b11, E.b12, E.b13, E.b14, E.b15, E.b16, E.b17, E.b18, E.b19, E.b20, reduceCtorEq] at hc
            all_goals (
              refine E.CW.skip ?_
              refine E.then_n ?_
              refine E.CW.seq ?_
              refine E.CW.block ?_
              have hbb := Fl.div_b (w := b) (h := a) (p := (k : Int)) (by omega) (by rw [Int.mul_comm b a]; omega)
              have hmb := Fl.mulb (a := (k : Int) % b) (b := a) (by omega) (by omega)
              have hxb := Fl.xp_b (a := a) (b := b) (k := (k : Int)) (by omega) (by omega)
              unfold Fl.xp at hxb
              refine E.CW.drawx mixed [2] rfl ?_
              all_goals (refine E.AW.first 0 rfl (by kernel_rfl) (by kernel_rfl) (by kernel_rfl) rfl rfl rfl (E.PV.fieldAddr fa48_2 rfl rfl) ?_)
              all_goals (refine E.AW.first 2 rfl (by kernel_rfl) (by kernel_rfl) (by kernel_rfl) rfl rfl rfl (E.PV.fieldAddr fa48_2 rfl rfl) ?_)
              all_goals (refine E.AW.first 3 rfl (by kernel_rfl) (by kernel_rfl) (by kernel_rfl) rfl rfl rfl (E.PV.load (i := 0) na22 rfl rfl rfl rfl) ?_)
              all_goals (refine E.AW.first 4 rfl (by kernel_rfl) (by kernel_rfl) (by kernel_rfl) rfl rfl rfl (E.PV.move rfl rfl) ?_)
              all_goals (refine E.AW.first 5 rfl (by kernel_rfl) (by kernel_rfl) (by kernel_rfl) rfl rfl rfl (E.PV.fieldAddr fa48_1 rfl rfl) ?_)
              all_goals (refine E.AW.first 6 rfl (by kernel_rfl) (by kernel_rfl) (by kernel_rfl) rfl rfl rfl (E.PV.load (i := 0) na3 rfl rfl rfl rfl) ?_)
              all_goals (refine E.AW.first 7 rfl (by kernel_rfl) (by kernel_rfl) (by kernel_rfl) rfl rfl rfl (E.PV.rem_i64 rfl rfl rfl ?_ ?_) ?_; (focus (omega)); (focus (omega)))
              all_goals (refine E.AW.first 8 rfl (by kernel_rfl) (by kernel_rfl) (by kernel_rfl) rfl rfl rfl (E.PV.fieldAddr fa48_0 rfl rfl) ?_)
              all_goals (refine E.AW.first 9 rfl (by kernel_rfl) (by kernel_rfl) (by kernel_rfl) rfl rfl rfl (E.PV.load (i := 0) na3 rfl rfl rfl rfl) ?_)
              all_goals (refine E.AW.first 10 rfl (by kernel_rfl) (by kernel_rfl) (by kernel_rfl) rfl rfl rfl (E.PV.mul_i64 rfl rfl rfl ?_) ?_; (focus (omega)))
              all_goals (refine E.AW.first 11 rfl (by kernel_rfl) (by kernel_rfl) (by kernel_rfl) rfl rfl rfl (E.PV.move rfl rfl) ?_)
              all_goals (refine E.AW.first 12 rfl (by kernel_rfl) (by kernel_rfl) (by kernel_rfl) rfl rfl rfl (E.PV.fieldAddr fa48_1 rfl rfl) ?_)
              all_goals (refine E.AW.first 13 rfl (by kernel_rfl) (by kernel_rfl) (by kernel_rfl) rfl rfl rfl (E.PV.load (i := 0) na3 rfl rfl rfl rfl) ?_)
              all_goals (refine E.AW.first 14 rfl (by kernel_rfl) (by kernel_rfl) (by kernel_rfl) rfl rfl rfl (E.PV.quo_i64 rfl rfl rfl ?_ ?_) ?_; (focus (omega)); (focus (omega)))
              all_goals (refine E.AW.first 15 rfl (by kernel_rfl) (by kernel_rfl) (by kernel_rfl) rfl rfl rfl (E.PV.add_i64 rfl rfl rfl ?_) ?_; (focus (omega)))
              all_goals (refine E.AW.first 16 rfl (by kernel_rfl) (by kernel_rfl) (by kernel_rfl) rfl rfl rfl (E.PV.indexAddr1 (E.rdc hX) Try.underlying22 in5 rfl rfl rfl (E.tn ?_) ?_ ?_) ?_; (focus (omega)); (focus (first | (simp; done) | (simp; omega))); (focus (omega)))
              all_goals (refine E.AW.first 17 rfl (by kernel_rfl) (by kernel_rfl) (by kernel_rfl) rfl rfl rfl (E.PV.load_u8 (E.rdc hX) na5 rfl rfl ?_) ?_; (focus (omega)))
              all_goals (
                refine E.AW.two 1 18 (by kernel_rfl) rfl rfl ?ga ?gb
                case' ga =>
                    all_goals (refine E.OW.pure rfl rfl rfl (E.PV.load (i := 1) na22 rfl rfl rfl rfl) ?_)
                    all_goals (first | (refine E.AW.nil [0] rfl ?_) | (refine E.AW.nil [1] rfl ?_) | (refine E.AW.nil [2] rfl ?_) | (refine E.AW.nil [3] rfl ?_) | (refine E.AW.nil [4] rfl ?_) | (refine E.AW.nil [5] rfl ?_) | (refine E.AW.nil [6] rfl ?_) | (refine E.AW.nil [7] rfl ?_))
                    all_goals (refine E.AW.one 18 (by kernel_rfl) rfl ?_)
                    all_goals (refine E.OW.buildSlice (Et := 5) (sz := 1) (ps := [(0, .tmp 64)]) rfl rfl rfl rfl rfl (by simp) (by unfold maxLen; omega) (fun w => bsl22_1_0 _ w) (fun A3 => ?_))
                    all_goals (first | (refine E.AW.nil [0] rfl ?_) | (refine E.AW.nil [1] rfl ?_) | (refine E.AW.nil [2] rfl ?_) | (refine E.AW.nil [3] rfl ?_) | (refine E.AW.nil [4] rfl ?_) | (refine E.AW.nil [5] rfl ?_) | (refine E.AW.nil [6] rfl ?_) | (refine E.AW.nil [7] rfl ?_))
                    all_goals (refine E.AW.one 19 (by kernel_rfl) rfl ?_)
                    all_goals (refine E.OW.app_u81 (j := 0) (i := 0) (l.getD (Fl.xp a b (k : Int)).toNat 0) ?_ Try.underlying22 in5 rfl rfl rfl rfl rfl rfl rfl rfl rfl rfl ?_ (fun A4 c4 => ?_); (focus (rfl)); (focus ((first | omega | (simp only [List.length_append, List.length_cons, List.length_nil] at *; omega) | (unfold maxLen at *; omega)))))
                    all_goals (first | (refine E.AW.nil [0] rfl ?_) | (refine E.AW.nil [1] rfl ?_) | (refine E.AW.nil [2] rfl ?_) | (refine E.AW.nil [3] rfl ?_) | (refine E.AW.nil [4] rfl ?_) | (refine E.AW.nil [5] rfl ?_) | (refine E.AW.nil [6] rfl ?_) | (refine E.AW.nil [7] rfl ?_))
                    all_goals (refine E.AW.first 20 rfl (by kernel_rfl) (by kernel_rfl) (by kernel_rfl) rfl rfl rfl (E.PV.fieldAddr fa48_2 rfl rfl) ?_)
                    all_goals (refine E.AW.one 21 (by kernel_rfl) rfl ?_)
                    all_goals (refine E.OW.store (i := 1) in22.size rfl rfl rfl rfl rfl rfl rfl rfl rfl ?_)
                    all_goals (first | (refine E.AW.nil [0] rfl ?_) | (refine E.AW.nil [1] rfl ?_) | (refine E.AW.nil [2] rfl ?_) | (refine E.AW.nil [3] rfl ?_) | (refine E.AW.nil [4] rfl ?_) | (refine E.AW.nil [5] rfl ?_) | (refine E.AW.nil [6] rfl ?_) | (refine E.AW.nil [7] rfl ?_))
                    all_goals (refine E.AW.done (by kernel_rfl) ?_)
                case' gb =>
                    all_goals (refine E.OW.buildSlice (Et := 5) (sz := 1) (ps := [(0, .tmp 64)]) rfl rfl rfl rfl rfl (by simp) (by unfold maxLen; omega) (fun w => bsl22_1_0 _ w) (fun A5 => ?_))
                    all_goals (first | (refine E.AW.nil [0] rfl ?_) | (refine E.AW.nil [1] rfl ?_) | (refine E.AW.nil [2] rfl ?_) | (refine E.AW.nil [3] rfl ?_) | (refine E.AW.nil [4] rfl ?_) | (refine E.AW.nil [5] rfl ?_) | (refine E.AW.nil [6] rfl ?_) | (refine E.AW.nil [7] rfl ?_))
                    all_goals (refine E.AW.one 1 (by kernel_rfl) rfl ?_)
                    all_goals (refine E.OW.pure rfl rfl rfl (E.PV.load (i := 2) na22 rfl rfl rfl rfl) ?_)
                    all_goals (first | (refine E.AW.nil [0] rfl ?_) | (refine E.AW.nil [1] rfl ?_) | (refine E.AW.nil [2] rfl ?_) | (refine E.AW.nil [3] rfl ?_) | (refine E.AW.nil [4] rfl ?_) | (refine E.AW.nil [5] rfl ?_) | (refine E.AW.nil [6] rfl ?_) | (refine E.AW.nil [7] rfl ?_))
                    all_goals (refine E.AW.one 19 (by kernel_rfl) rfl ?_)
                    all_goals (refine E.OW.app_u81 (j := 0) (i := 0) (l.getD (Fl.xp a b (k : Int)).toNat 0) ?_ Try.underlying22 in5 rfl rfl rfl rfl rfl rfl rfl rfl rfl rfl ?_ (fun A6 c6 => ?_); (focus (rfl)); (focus ((first | omega | (simp only [List.length_append, List.length_cons, List.length_nil] at *; omega) | (unfold maxLen at *; omega)))))
                    all_goals (first | (refine E.AW.nil [0] rfl ?_) | (refine E.AW.nil [1] rfl ?_) | (refine E.AW.nil [2] rfl ?_) | (refine E.AW.nil [3] rfl ?_) | (refine E.AW.nil [4] rfl ?_) | (refine E.AW.nil [5] rfl ?_) | (refine E.AW.nil [6] rfl ?_) | (refine E.AW.nil [7] rfl ?_))
                    all_goals (refine E.AW.first 20 rfl (by kernel_rfl) (by kernel_rfl) (by kernel_rfl) rfl rfl rfl (E.PV.fieldAddr fa48_2 rfl rfl) ?_)
                    all_goals (refine E.AW.one 21 (by kernel_rfl) rfl ?_)
                    all_goals (refine E.OW.store (i := 1) in22.size rfl rfl rfl rfl rfl rfl rfl rfl rfl ?_)
                    all_goals (first | (refine E.AW.nil [0] rfl ?_) | (refine E.AW.nil [1] rfl ?_) | (refine E.AW.nil [2] rfl ?_) | (refine E.AW.nil [3] rfl ?_) | (refine E.AW.nil [4] rfl ?_) | (refine E.AW.nil [5] rfl ?_) | (refine E.AW.nil [6] rfl ?_) | (refine E.AW.nil [7] rfl ?_))
                    all_goals (refine E.AW.done (by kernel_rfl) ?_))
              all_goals (
                skip
                refine E.blk_n ?_
                refine E.then_n ?_
                refine E.CW.region ?_
                refine E.OW.pure rfl rfl rfl (E.PV.move rfl rfl) ?_
                refine E.OW.pure rfl rfl rfl (E.PV.add_i64 rfl rfl rfl ?_) ?_; (focus (omega))
                refine E.OW.pure rfl rfl rfl (E.PV.assign rfl rfl) ?_
                refine E.OW.nil ?_
                refine E.then_nf ?_
                refine ⟨_, [(9, _)], [1, 0, 0], _, ?_, by repeat (first | exact E.cov_nil | refine ⟨rfl, ?_⟩), rfl, k + 1, _, _, rfl, rfl, by rw [Fl.tr_succ], by omega⟩
                omega))
          · simp only [E.b0, E.b1, E.b2, E.b3, E.b4, E.b5, E.b6, E.b7, E.b8, E.b9, E.b10, E.b11, E.b12, E.b13, E.b14, E.b15, E.b16, E.b17, E.b18, E.b19, E.b20, reduceCtorEq] at hc
            all_goals (
              refine E.CW.exit ?_
              refine E.then_x ?_
              refine E.then_x ?_
              refine E.blk_eq ?_
              refine E.then_n ?_
              refine E.CW.seq ?_
              obtain rfl : k = l.length := by omega
              have hdr : Fl.draw a b l = (Fl.draws a l l.length, 0) := if_pos hv
              have hdr2 : Fl.draw b a (Fl.tr a b l l.length) = (Fl.draws b (Fl.tr a b l l.length) l.length, 0) := by unfold Fl.draw; rw [if_pos hvt, Fl.tr_len]
              have hds := Fl.draws_sum hv
              have hdt := Fl.draws_sum hvt
              rw [Fl.tr_len] at hdt
              refine E.CW.region ?_
              refine E.OW.pure rfl rfl rfl (E.PV.loads (i := 2) is48 rfl rfl rfl rfl) ?_
              (refine E.OW.call nm50 rfl rfl rfl rfl rfl rfl _ (fun w hw => Draw_ok _ _ _ _ _ w ?_ ?_) ?_; (focus (assumption)); (focus (refine hw.rd ?_; assumption)); rintro _ _ ⟨rfl, rfl⟩)
              refine E.OW.pure rfl rfl rfl (E.PV.move rfl rfl) ?_
              refine E.OW.pure rfl rfl rfl (E.PV.extract rfl rfl rfl) ?_
              refine E.OW.pure rfl rfl rfl (E.PV.extract rfl rfl rfl) ?_
              refine E.OW.pure rfl rfl rfl (E.PV.assign rfl rfl) ?_
              refine E.OW.pure rfl rfl rfl (E.PV.assign rfl rfl) ?_
              refine E.OW.nil ?_
              refine E.then_n ?_
              refine E.CW.seq ?_
              refine E.CW.put 10 (E.sv (Fl.draws a l l.length)) rfl (by rw [hdr]; rfl) ?_
              refine E.CW.put 11 (.int .i64 0) rfl (by rw [hdr]; rfl) ?_
              refine E.CW.region ?_
              refine E.OW.pure rfl rfl rfl (E.PV.loads (i := 1) is48 rfl rfl rfl rfl) ?_
              (refine E.OW.call nm50 rfl rfl rfl rfl rfl rfl _ (fun w hw => DrawT_ok _ _ _ _ (Fl.tr a b l l.length) _ w ?_ ?_ ?_) ?_; (focus (omega)); (focus (omega)); (focus (exact hw.rdrow (i := 0) rfl)); rintro _ _ ⟨rfl, rfl⟩)
              refine E.OW.pure rfl rfl rfl (E.PV.move rfl rfl) ?_
              refine E.OW.pure rfl rfl rfl (E.PV.extract rfl rfl rfl) ?_
              refine E.OW.pure rfl rfl rfl (E.PV.extract rfl rfl rfl) ?_
              refine E.OW.pure rfl rfl rfl (E.PV.assign rfl rfl) ?_
              refine E.OW.pure rfl rfl rfl (E.PV.assign rfl rfl) ?_
              refine E.OW.nil ?_
              refine E.then_n ?_
              refine E.CW.seq ?_
              refine E.CW.seq ?_
              refine E.CW.put 12 (E.sv (Fl.draws b (Fl.tr a b l l.length) l.length)) rfl (by rw [hdr2]; rfl) ?_
              refine E.CW.put 13 (.int .i64 0) rfl (by rw [hdr2]; rfl) ?_
              refine E.CW.region ?_
              refine E.OW.pure rfl rfl rfl (E.PV.move rfl rfl) ?_
              refine E.OW.pure rfl rfl rfl (E.PV.neq rfl rfl rfl) ?_
              refine E.OW.pure rfl rfl rfl (E.PV.move rfl rfl) ?_
              all_goals (refine E.OW.put 80 (.bool false) (v := .bool false) rfl rfl ?_)
              all_goals (refine E.OW.pure rfl rfl rfl (E.PV.move rfl rfl) ?_)
              all_goals (refine E.OW.pure rfl rfl rfl (E.PV.neq rfl rfl rfl) ?_)
              all_goals (refine E.OW.pure rfl rfl rfl (E.PV.pick_f rfl rfl rfl) ?_)
              all_goals (refine E.OW.pure rfl rfl rfl (E.PV.move rfl rfl) ?_)
              all_goals (refine E.OW.put 84 (.bool false) (v := .bool false) rfl rfl ?_)
              all_goals (refine E.OW.pure rfl rfl rfl (E.PV.move rfl rfl) ?_)
              all_goals (refine E.OW.pure rfl rfl rfl (E.PV.slen Try.underlying9 rfl rfl) ?_)
              all_goals (refine E.OW.pure rfl rfl rfl (E.PV.fieldAddr fa48_2 rfl rfl) ?_)
              all_goals (refine E.OW.pure rfl rfl rfl (E.PV.load (i := 2) na22 rfl rfl rfl rfl) ?_)
              all_goals (refine E.OW.pure rfl rfl rfl (E.PV.len Try.underlying22 rfl rfl) ?_)
              all_goals (refine E.OW.pure rfl rfl rfl (E.PV.fieldAddr fa48_1 rfl rfl) ?_)
              all_goals (refine E.OW.pure rfl rfl rfl (E.PV.load (i := 2) na3 rfl rfl rfl rfl) ?_)
              all_goals (refine E.OW.pure rfl rfl rfl (E.PV.add_i64 rfl rfl rfl ?_) ?_; (focus (omega)))
              all_goals (refine E.OW.pure rfl rfl rfl (E.PV.neq rfl rfl rfl) ?_)
              all_goals (refine E.OW.pure rfl rfl rfl (E.PV.pick_f rfl rfl rfl) ?_)
              all_goals (refine E.OW.pure rfl rfl rfl (E.PV.move rfl rfl) ?_)
              all_goals (refine E.OW.put 95 (.bool false) rfl (congrArg Value.bool ?_) ?_; (focus ((simp only [E.b0, E.b1, E.b2, E.b3, E.b4, E.b5, E.b6, E.b7, E.b8, E.b9, E.b10, E.b11, E.b12, E.b13, E.b14, E.b15, E.b16, E.b17, E.b18, E.b19, E.b20]; omega))))
              all_goals (refine E.OW.pure rfl rfl rfl (E.PV.move rfl rfl) ?_)
              all_goals (refine E.OW.pure rfl rfl rfl (E.PV.slen Try.underlying9 rfl rfl) ?_)
              all_goals (refine E.OW.pure rfl rfl rfl (E.PV.fieldAddr fa48_2 rfl rfl) ?_)
              all_goals (refine E.OW.pure rfl rfl rfl (E.PV.load (i := 1) na22 rfl rfl rfl rfl) ?_)
              all_goals (refine E.OW.pure rfl rfl rfl (E.PV.len Try.underlying22 rfl rfl) ?_)
              all_goals (refine E.OW.pure rfl rfl rfl (E.PV.fieldAddr fa48_1 rfl rfl) ?_)
              all_goals (refine E.OW.pure rfl rfl rfl (E.PV.load (i := 1) na3 rfl rfl rfl rfl) ?_)
              all_goals (refine E.OW.pure rfl rfl rfl (E.PV.add_i64 rfl rfl rfl ?_) ?_; (focus (omega)))
              all_goals (refine E.OW.pure rfl rfl rfl (E.PV.neq rfl rfl rfl) ?_)
              all_goals (refine E.OW.pure rfl rfl rfl (E.PV.pick_f rfl rfl rfl) ?_)
              all_goals (
                refine E.OW.nil ?_
                refine E.then_n ?_
                refine E.CW.cond rfl (fun hc => ?_) (fun hc => ?_)
                · simp only [E.b0, E.b1, E.b2, E.b3, E.b4, E.b5, E.b6, E.b7, E.b8, E.b9, E.b10, E.b11, E.b12, E.b13, E.b14, E.b15, E.b16, E.b17, E.b18, E.b19, E.b20, reduceCtorEq] at hc
                  all_goals (exfalso; omega)
                · simp only [E.b0, E.b1, E.b2, E.b3, E.b4, E.b5, E.b6, E.b7, E.b8, E.b9, E.b10, E.b11, E.b12, E.b13, E.b14, E.b15, E.b16, E.b17, E.b18, E.b19, E.b20, reduceCtorEq] at hc
                  all_goals (
                    refine E.CW.skip ?_
                    refine E.then_n ?_
                    refine E.CW.seq ?_
                    refine E.CW.seq ?_
                    refine E.CW.region ?_
                    refine E.OW.pure rfl rfl rfl (E.PV.assign rfl rfl) ?_
                    refine E.OW.nil ?_
                    refine E.then_n ?_
                    refine E.CW.block ?_
                    refine E.CW.loopk [1, 2, 3, 7, 8, 10, 12] 0 rfl rfl (fun mm mods Hm => ∃ k : Nat, mm = l.length - k ∧ mods = [(14, .int .i64 k)] ∧ Hm = [] ∧ k ≤ l.length) (l.length) ?_ ?_
                    · exact ⟨[(14, _)], (by repeat (first | exact E.cov_nil | refine ⟨rfl, ?_⟩)), 0, rfl, rfl, rfl, by omega⟩
                    · rintro _ _ _ ⟨k, rfl, rfl, rfl, hk⟩
                      refine E.CW.seq ?_
                      refine E.CW.seq ?_
                      refine E.CW.region ?_
                      refine E.OW.pure rfl rfl rfl (E.PV.move rfl rfl) ?_
                      refine E.OW.pure rfl rfl rfl (E.PV.fieldAddr fa48_2 rfl rfl) ?_
                      refine E.OW.pure rfl rfl rfl (E.PV.load (i := 2) na22 rfl rfl rfl rfl) ?_
                      refine E.OW.pure rfl rfl rfl (E.PV.len Try.underlying22 rfl rfl) ?_
                      refine E.OW.pure rfl rfl rfl (E.PV.lss rfl rfl rfl) ?_
                      refine E.OW.nil ?_
                      refine E.then_n ?_
                      refine E.CW.cond rfl (fun hc => ?_) (fun hc => ?_)
                      · simp only [E.b0, E.b1, E.b2, E.b3, E.b4, E.b5, E.b6, E.b7, E.b8, E.b9, E.b10, E.b11, E.b12, E.b13, E.b14, E.b15, E.b16, E.b17, E.b18, E.b19, E.b20, reduceCtorEq] at hc
                        all_goals (
                          refine E.CW.skip ?_
                          refine E.then_n ?_
                          refine E.CW.seq ?_
                          refine E.CW.block ?_
                          refine E.CW.seq ?_
                          have hi : k < l.length := by omega
                          have hloc := Fl.locate_cell hv hi
                          have hpl := Fl.place_cell hv hi
                          have how := Fl.owner_cell hv hi
                          have hos := Fl.owner_swap hv hi
                          have hc1 := Fl.draw_at hv hi
                          have hc2 := Fl.draw_swap hv hi
                          have hi1 := Fl.draw_in hv hi
                          have hi2 := Fl.draw_swap_in hv hi
                          have hbb := Fl.div_b hvv (p := (k : Int)) (by omega)
                          have hm1 := Fl.mulb (a := (k : Int) / a) (b := a + 1) (by omega) (by omega)
                          have hm2 := Fl.mulb (a := (k : Int) % a) (b := b + 1) (by omega) (by omega)
                          refine E.CW.region ?_
                          refine E.OW.pure rfl rfl rfl (E.PV.fieldAddr fa48_0 rfl rfl) ?_
                          refine E.OW.pure rfl rfl rfl (E.PV.load (i := 2) na3 rfl rfl rfl rfl) ?_
                          refine E.OW.pure rfl rfl rfl (E.PV.fieldAddr fa48_1 rfl rfl) ?_
                          refine E.OW.pure rfl rfl rfl (E.PV.load (i := 2) na3 rfl rfl rfl rfl) ?_
                          refine E.OW.pure rfl rfl rfl (E.PV.move rfl rfl) ?_
                          (refine E.OW.call nm29 rfl rfl rfl rfl rfl rfl _ (fun w hw => Locate_ok _ _ _ w) ?_; rintro _ _ ⟨rfl, rfl⟩)
                          refine E.OW.pure rfl rfl rfl (E.PV.move rfl rfl) ?_
                          refine E.OW.pure rfl rfl rfl (E.PV.extract rfl rfl rfl) ?_
                          refine E.OW.pure rfl rfl rfl (E.PV.extract rfl rfl rfl) ?_
                          refine E.OW.pure rfl rfl rfl (E.PV.extract rfl rfl rfl) ?_
                          refine E.OW.pure rfl rfl rfl (E.PV.assign rfl rfl) ?_
                          refine E.OW.pure rfl rfl rfl (E.PV.assign rfl rfl) ?_
                          refine E.OW.pure rfl rfl rfl (E.PV.assign rfl rfl) ?_
                          refine E.OW.nil ?_
                          refine E.then_n ?_
                          refine E.CW.seq ?_
                          refine E.CW.put 15 (.int .i64 (((k : Int) % a))) rfl (by rw [hloc]; rfl) ?_
                          refine E.CW.put 16 (.int .i64 (((k : Int) / a))) rfl (by rw [hloc]; rfl) ?_
                          refine E.CW.put 17 (.int .i64 0) rfl (by rw [hloc]; rfl) ?_
                          refine E.CW.region ?_
                          refine E.OW.pure rfl rfl rfl (E.PV.fieldAddr fa48_0 rfl rfl) ?_
                          refine E.OW.pure rfl rfl rfl (E.PV.load (i := 1) na3 rfl rfl rfl rfl) ?_
                          refine E.OW.pure rfl rfl rfl (E.PV.fieldAddr fa48_1 rfl rfl) ?_
                          refine E.OW.pure rfl rfl rfl (E.PV.load (i := 1) na3 rfl rfl rfl rfl) ?_
                          refine E.OW.pure rfl rfl rfl (E.PV.move rfl rfl) ?_
                          refine E.OW.pure rfl rfl rfl (E.PV.move rfl rfl) ?_
                          (refine E.OW.call nm31 rfl rfl rfl rfl rfl rfl _ (fun w hw => Place_ok _ _ _ _ w) ?_; rintro _ _ ⟨rfl, rfl⟩)
                          refine E.OW.pure rfl rfl rfl (E.PV.move rfl rfl) ?_
                          refine E.OW.pure rfl rfl rfl (E.PV.extract rfl rfl rfl) ?_
                          refine E.OW.pure rfl rfl rfl (E.PV.extract rfl rfl rfl) ?_
                          refine E.OW.pure rfl rfl rfl (E.PV.assign rfl rfl) ?_
                          refine E.OW.pure rfl rfl rfl (E.PV.assign rfl rfl) ?_
                          refine E.OW.nil ?_
                          refine E.then_n ?_
                          refine E.CW.seq ?_
                          refine E.CW.put 18 (.int .i64 (((k : Int) % a) * b + ((k : Int) / a))) rfl (by rw [hpl]; rfl) ?_
                          refine E.CW.put 19 (.int .i64 0) rfl (by rw [hpl]; rfl) ?_
                          refine E.CW.region ?_
                          refine E.OW.pure rfl rfl rfl (E.PV.loads (i := 2) is48 rfl rfl rfl rfl) ?_
                          refine E.OW.pure rfl rfl rfl (E.PV.move rfl rfl) ?_
                          (refine E.OW.call nm40 rfl rfl rfl rfl rfl rfl _ (fun w hw => Owner_ok _ _ _ _ _ _ w ?_ ?_) ?_; (focus (assumption)); (focus (refine hw.rd ?_; assumption)); rintro _ _ ⟨rfl, rfl⟩)
                          refine E.OW.pure rfl rfl rfl (E.PV.move rfl rfl) ?_
                          refine E.OW.pure rfl rfl rfl (E.PV.extract rfl rfl rfl) ?_
                          refine E.OW.pure rfl rfl rfl (E.PV.extract rfl rfl rfl) ?_
                          refine E.OW.pure rfl rfl rfl (E.PV.assign rfl rfl) ?_
                          refine E.OW.pure rfl rfl rfl (E.PV.assign rfl rfl) ?_
                          refine E.OW.nil ?_
                          refine E.then_n ?_
                          refine E.CW.seq ?_
                          refine E.CW.put 20 (.int .i64 (Fl.ownerC (l.getD k 0))) rfl (by rw [how]; rfl) ?_
                          refine E.CW.put 21 (.int .i64 0) rfl (by rw [how]; rfl) ?_
                          refine E.CW.region ?_
                          refine E.OW.pure rfl rfl rfl (E.PV.loads (i := 1) is48 rfl rfl rfl rfl) ?_
                          refine E.OW.pure rfl rfl rfl (E.PV.move rfl rfl) ?_
                          (refine E.OW.call nm40 rfl rfl rfl rfl rfl rfl _ (fun w hw => OwnerT_ok _ _ _ _ (Fl.tr a b l l.length) _ _ w ?_ ?_ ?_) ?_; (focus (omega)); (focus (omega)); (focus (exact hw.rdrow (i := 0) rfl)); rintro _ _ ⟨rfl, rfl⟩)
                          refine E.OW.pure rfl rfl rfl (E.PV.move rfl rfl) ?_
                          refine E.OW.pure rfl rfl rfl (E.PV.extract rfl rfl rfl) ?_
                          refine E.OW.pure rfl rfl rfl (E.PV.extract rfl rfl rfl) ?_
                          refine E.OW.pure rfl rfl rfl (E.PV.assign rfl rfl) ?_
                          refine E.OW.pure rfl rfl rfl (E.PV.assign rfl rfl) ?_
                          refine E.OW.nil ?_
                          refine E.then_n ?_
                          refine E.CW.seq ?_
                          refine E.CW.put 22 (.int .i64 (Fl.ownerC (l.getD k 0))) rfl (by rw [hos]; rfl) ?_
                          refine E.CW.put 23 (.int .i64 0) rfl (by rw [hos]; rfl) ?_
                          refine E.CW.draw mixed (by kernel_rfl) ?_
                          refine E.QW.pure rfl rfl rfl (E.PV.move rfl rfl) ?_
                          refine E.QW.pure rfl rfl rfl (E.PV.neq rfl rfl rfl) ?_
                          refine E.QW.pure rfl rfl rfl (E.PV.move rfl rfl) ?_
                          all_goals (refine E.QW.put 147 (.bool false) (v := .bool false) rfl rfl ?_)
                          all_goals (refine E.QW.pure rfl rfl rfl (E.PV.move rfl rfl) ?_)
                          all_goals (refine E.QW.pure rfl rfl rfl (E.PV.neq rfl rfl rfl) ?_)
                          all_goals (refine E.QW.pure rfl rfl rfl (E.PV.pick_f rfl rfl rfl) ?_)
                          all_goals (refine E.QW.pure rfl rfl rfl (E.PV.move rfl rfl) ?_)
                          all_goals (refine E.QW.put 151 (.bool false) (v := .bool false) rfl rfl ?_)
                          all_goals (refine E.QW.pure rfl rfl rfl (E.PV.move rfl rfl) ?_)
                          all_goals (refine E.QW.pure rfl rfl rfl (E.PV.neq rfl rfl rfl) ?_)
                          all_goals (refine E.QW.pure rfl rfl rfl (E.PV.pick_f rfl rfl rfl) ?_)
                          all_goals (refine E.QW.pure rfl rfl rfl (E.PV.move rfl rfl) ?_)
                          all_goals (refine E.QW.put 155 (.bool false) (v := .bool false) rfl rfl ?_)
                          all_goals (refine E.QW.pure rfl rfl rfl (E.PV.move rfl rfl) ?_)
                          all_goals (refine E.QW.pure rfl rfl rfl (E.PV.move rfl rfl) ?_)
                          all_goals (refine E.QW.pure rfl rfl rfl (E.PV.move rfl rfl) ?_)
                          all_goals ((refine E.QW.call nm56 rfl rfl rfl rfl rfl rfl _ (fun w hw => E.Post.val (is_ok _ _ _ w)) ?_))
                          all_goals (refine E.QW.pure rfl rfl rfl (E.PV.not rfl rfl) ?_)
                          all_goals (refine E.QW.pure rfl rfl rfl (E.PV.pick_f rfl rfl rfl) ?_)
                          all_goals (refine E.QW.pure rfl rfl rfl (E.PV.move rfl rfl) ?_)
                          all_goals (refine E.QW.put 162 (.bool false) rfl (congrArg Value.bool ?_) ?_; (focus ((simp; done))))
                          all_goals (refine E.QW.pure rfl rfl rfl (E.PV.move rfl rfl) ?_)
                          all_goals (refine E.QW.pure rfl rfl rfl (E.PV.move rfl rfl) ?_)
                          all_goals (refine E.QW.pure rfl rfl rfl (E.PV.fieldAddr fa48_0 rfl rfl) ?_)
                          all_goals (refine E.QW.pure rfl rfl rfl (E.PV.load (i := 2) na3 rfl rfl rfl rfl) ?_)
                          all_goals (refine E.QW.pure rfl rfl rfl (E.PV.add_i64 rfl rfl rfl ?_) ?_; (focus (omega)))
                          all_goals (refine E.QW.pure rfl rfl rfl (E.PV.mul_i64 rfl rfl rfl ?_) ?_; (focus (omega)))
                          all_goals (refine E.QW.pure rfl rfl rfl (E.PV.move rfl rfl) ?_)
                          all_goals (refine E.QW.pure rfl rfl rfl (E.PV.add_i64 rfl rfl rfl ?_) ?_; (focus (omega)))
                          all_goals (refine E.QW.pure rfl rfl rfl (E.PV.sindex Try.underlying9 rfl rfl rfl (E.tn ?_) ?_) ?_; (focus (omega)); (focus (omega)))
                          all_goals (refine E.QW.pure rfl rfl rfl (E.PV.move rfl rfl) ?_)
                          all_goals (refine E.QW.pure rfl rfl rfl (E.PV.move rfl rfl) ?_)
                          all_goals (refine E.QW.pure rfl rfl rfl (E.PV.fieldAddr fa48_0 rfl rfl) ?_)
                          all_goals (refine E.QW.pure rfl rfl rfl (E.PV.load (i := 1) na3 rfl rfl rfl rfl) ?_)
                          all_goals (refine E.QW.pure rfl rfl rfl (E.PV.add_i64 rfl rfl rfl ?_) ?_; (focus (omega)))
                          all_goals (refine E.QW.pure rfl rfl rfl (E.PV.mul_i64 rfl rfl rfl ?_) ?_; (focus (omega)))
                          all_goals (refine E.QW.pure rfl rfl rfl (E.PV.move rfl rfl) ?_)
                          all_goals (refine E.QW.pure rfl rfl rfl (E.PV.add_i64 rfl rfl rfl ?_) ?_; (focus (omega)))
                          all_goals (refine E.QW.pure rfl rfl rfl (E.PV.sindex Try.underlying9 rfl rfl rfl (E.tn ?_) ?_) ?_; (focus (omega)); (focus (omega)))
                          all_goals (refine E.QW.pure rfl rfl rfl (E.PV.neq rfl rfl rfl) ?_)
                          all_goals (refine E.QW.pure rfl rfl rfl (E.PV.pick_f rfl rfl rfl) ?_)
                          all_goals (
                            refine E.QW.nil ?_
                            refine E.then_n ?_
                            refine E.CW.cond rfl (fun hc => ?_) (fun hc => ?_)
                            · simp only [E.b0, E.b1, E.b2, E.b3, E.b4, E.b5, E.b6, E.b7, E.b8, E.b9, E.b10, E.b11, E.b12, E.b13, E.b14, E.b15, E.b16, E.b17, E.b18, E.b19, E.b20, reduceCtorEq] at hc
                              all_goals (exfalso; rw [hc1, hc2] at hc; exact hc rfl)
                            · simp only [E.b0, E.b1, E.b2, E.b3, E.b4, E.b5, E.b6, E.b7, E.b8, E.b9, E.b10, E.b11, E.b12, E.b13, E.b14, E.b15, E.b16, E.b17, E.b18, E.b19, E.b20, reduceCtorEq] at hc
                              all_goals (
                                refine E.CW.skip ?_
                                refine E.blk_n ?_
                                refine E.then_n ?_
                                refine E.CW.region ?_
                                refine E.OW.pure rfl rfl rfl (E.PV.move rfl rfl) ?_
                                refine E.OW.pure rfl rfl rfl (E.PV.add_i64 rfl rfl rfl ?_) ?_; (focus (omega))
                                refine E.OW.pure rfl rfl rfl (E.PV.assign rfl rfl) ?_
                                refine E.OW.nil ?_
                                refine E.then_nf ?_
                                refine ⟨_, [(14, _)], [0, 0, 0], _, ?_, by repeat (first | exact E.cov_nil | refine ⟨rfl, ?_⟩), rfl, k + 1, rfl, rfl, rfl, by omega⟩
                                omega)))
                      · simp only [E.b0, E.b1, E.b2, E.b3, E.b4, E.b5, E.b6, E.b7, E.b8, E.b9, E.b10, E.b11, E.b12, E.b13, E.b14, E.b15, E.b16, E.b17, E.b18, E.b19, E.b20, reduceCtorEq] at hc
                        all_goals (
                          refine E.CW.exit ?_
                          refine E.then_x ?_
                          refine E.then_x ?_
                          refine E.blk_eq ?_
                          refine E.then_n ?_
                          refine E.CW.seq ?_
                          refine E.CW.seq ?_
                          refine E.CW.region ?_
                          refine E.OW.pure rfl rfl rfl (E.PV.fieldAddr fa48_0 rfl rfl) ?_
                          refine E.OW.pure rfl rfl rfl (E.PV.load (i := 2) na3 rfl rfl rfl rfl) ?_
                          refine E.OW.pure rfl rfl rfl (E.PV.fieldAddr fa48_1 rfl rfl) ?_
                          refine E.OW.pure rfl rfl rfl (E.PV.load (i := 2) na3 rfl rfl rfl rfl) ?_
                          refine E.OW.pure rfl rfl rfl (E.PV.move rfl rfl) ?_
                          (refine E.OW.call nm59 rfl rfl rfl rfl rfl rfl _ (fun w hw => rOn_ok _ _ _ w) ?_; rintro _ _ ⟨rfl, rfl⟩)
                          refine E.OW.pure rfl rfl rfl (E.PV.not rfl rfl) ?_
                          refine E.OW.pure rfl rfl rfl (E.PV.move rfl rfl) ?_
                          all_goals (refine E.OW.split 190 rfl (fun hc => ?_) (fun hc => ?_) <;> (try simp only [E.b0, E.b1, E.b2, E.b3, E.b4, E.b5, E.b6, E.b7, E.b8, E.b9, E.b10, E.b11, E.b12, E.b13, E.b14, E.b15, E.b16, E.b17, E.b18, E.b19, E.b20, reduceCtorEq] at hc) <;> (try (exfalso; first | assumption | contradiction | omega)))
                          all_goals (first | (refine E.OW.off rfl rfl rfl ?_) | (refine E.OW.pure rfl rfl rfl (E.PV.fieldAddr fa48_0 rfl rfl) ?_))
                          all_goals (first | (refine E.OW.off rfl rfl rfl ?_) | (refine E.OW.pure rfl rfl rfl (E.PV.load (i := 2) na3 rfl rfl rfl rfl) ?_))
                          all_goals (first | (refine E.OW.off rfl rfl rfl ?_) | (refine E.OW.pure rfl rfl rfl (E.PV.fieldAddr fa48_1 rfl rfl) ?_))
                          all_goals (first | (refine E.OW.off rfl rfl rfl ?_) | (refine E.OW.pure rfl rfl rfl (E.PV.load (i := 2) na3 rfl rfl rfl rfl) ?_))
                          all_goals (first | (refine E.OW.off rfl rfl rfl ?_) | (refine E.OW.pure rfl rfl rfl (E.PV.move rfl rfl) ?_))
                          all_goals (first | (refine E.OW.off rfl rfl rfl ?_) | ((refine E.OW.call nm59 rfl rfl rfl rfl rfl rfl _ (fun w hw => rOn_ok _ _ _ w) ?_; rintro _ _ ⟨rfl, rfl⟩)))
                          all_goals (first | (refine E.OW.off rfl rfl rfl ?_) | (refine E.OW.pure rfl rfl rfl (E.PV.not rfl rfl) ?_))
                          all_goals (first | (refine E.OW.pure rfl rfl rfl (E.PV.pick_t rfl rfl rfl) ?_) | (refine E.OW.pure rfl rfl rfl (E.PV.pick_f rfl rfl rfl) ?_))
                          all_goals (
                            refine E.OW.nil ?_
                            refine E.then_n ?_
                            refine E.CW.cond rfl (fun hc => ?_) (fun hc => ?_)
                            · simp only [E.b0, E.b1, E.b2, E.b3, E.b4, E.b5, E.b6, E.b7, E.b8, E.b9, E.b10, E.b11, E.b12, E.b13, E.b14, E.b15, E.b16, E.b17, E.b18, E.b19, E.b20, reduceCtorEq] at hc
                              all_goals (
                                refine E.CW.seq ?_
                                refine E.CW.region ?_
                                refine E.OW.pure rfl rfl rfl (E.PV.move rfl rfl) ?_
                                refine E.OW.pure rfl rfl rfl (E.PV.assign rfl rfl) ?_
                                refine E.OW.nil ?_
                                refine E.then_n ?_
                                refine E.CW.ret ?_
                                refine E.then_ret ?_
                                refine E.KR.one [] Try.results17 rfl rfl ?_
                                exact ⟨by first | rfl | (simp; done) | (simp; omega), rfl⟩)
                            · first | ((cases hc; done)) | (simp only [E.b0, E.b1, E.b2, E.b3, E.b4, E.b5, E.b6, E.b7, E.b8, E.b9, E.b10, E.b11, E.b12, E.b13, E.b14, E.b15, E.b16, E.b17, E.b18, E.b19, E.b20, reduceCtorEq] at hc)
                              all_goals (
                                refine E.CW.skip ?_
                                refine E.then_n ?_
                                refine E.CW.seq ?_
                                have hp : Fl.has a b p = true := by assumption
                                have hq : Fl.has a b q = true := by assumption
                                have hp0 := Fl.has_iff.1 hp
                                have hq0 := Fl.has_iff.1 hq
                                have hpb := Fl.div_b hvv hp0.2
                                have hqb := Fl.div_b hvv hq0.2
                                have hm1 := Fl.mulb (a := p % a) (b := b) (by omega) (by omega)
                                have hm2 := Fl.mulb (a := q % a) (b := b) (by omega) (by omega)
                                have hd1 : Fl.distance a b p q = (Fl.dist a p q, 0) := Fl.distance_ok hp hq
                                have hd2 := Fl.distance_swap hp hq
                                refine E.CW.region ?_
                                refine E.OW.pure rfl rfl rfl (E.PV.fieldAddr fa48_0 rfl rfl) ?_
                                refine E.OW.pure rfl rfl rfl (E.PV.load (i := 2) na3 rfl rfl rfl rfl) ?_
                                refine E.OW.pure rfl rfl rfl (E.PV.fieldAddr fa48_1 rfl rfl) ?_
                                refine E.OW.pure rfl rfl rfl (E.PV.load (i := 2) na3 rfl rfl rfl rfl) ?_
                                refine E.OW.pure rfl rfl rfl (E.PV.move rfl rfl) ?_
                                refine E.OW.pure rfl rfl rfl (E.PV.move rfl rfl) ?_
                                (refine E.OW.call nm37 rfl rfl rfl rfl rfl rfl _ (fun w hw => Distance_ok _ _ _ _ w) ?_; rintro _ _ ⟨rfl, rfl⟩)
                                refine E.OW.pure rfl rfl rfl (E.PV.move rfl rfl) ?_
                                refine E.OW.pure rfl rfl rfl (E.PV.extract rfl rfl rfl) ?_
                                refine E.OW.pure rfl rfl rfl (E.PV.extract rfl rfl rfl) ?_
                                refine E.OW.pure rfl rfl rfl (E.PV.assign rfl rfl) ?_
                                refine E.OW.pure rfl rfl rfl (E.PV.assign rfl rfl) ?_
                                refine E.OW.nil ?_
                                refine E.then_n ?_
                                refine E.CW.seq ?_
                                refine E.CW.put 24 (.int .i64 (Fl.dist a p q)) rfl (by rw [hd1]; rfl) ?_
                                refine E.CW.put 11 (.int .i64 0) rfl (by rw [hd1]; rfl) ?_
                                refine E.CW.draw mixed (by kernel_rfl) ?_
                                refine E.QW.pure rfl rfl rfl (E.PV.fieldAddr fa48_0 rfl rfl) ?_
                                refine E.QW.pure rfl rfl rfl (E.PV.load (i := 1) na3 rfl rfl rfl rfl) ?_
                                refine E.QW.pure rfl rfl rfl (E.PV.fieldAddr fa48_1 rfl rfl) ?_
                                refine E.QW.pure rfl rfl rfl (E.PV.load (i := 1) na3 rfl rfl rfl rfl) ?_
                                refine E.QW.pure rfl rfl rfl (E.PV.move rfl rfl) ?_
                                refine E.QW.pure rfl rfl rfl (E.PV.fieldAddr fa48_0 rfl rfl) ?_
                                refine E.QW.pure rfl rfl rfl (E.PV.load (i := 2) na3 rfl rfl rfl rfl) ?_
                                refine E.QW.pure rfl rfl rfl (E.PV.rem_i64 rfl rfl rfl ?_ ?_) ?_; (focus (omega)); (focus (omega))
                                refine E.QW.pure rfl rfl rfl (E.PV.fieldAddr fa48_1 rfl rfl) ?_
                                refine E.QW.pure rfl rfl rfl (E.PV.load (i := 2) na3 rfl rfl rfl rfl) ?_
                                refine E.QW.pure rfl rfl rfl (E.PV.mul_i64 rfl rfl rfl ?_) ?_; (focus (omega))
                                refine E.QW.pure rfl rfl rfl (E.PV.move rfl rfl) ?_
                                refine E.QW.pure rfl rfl rfl (E.PV.fieldAddr fa48_0 rfl rfl) ?_
                                refine E.QW.pure rfl rfl rfl (E.PV.load (i := 2) na3 rfl rfl rfl rfl) ?_
                                refine E.QW.pure rfl rfl rfl (E.PV.quo_i64 rfl rfl rfl ?_ ?_) ?_; (focus (omega)); (focus (omega))
                                refine E.QW.pure rfl rfl rfl (E.PV.add_i64 rfl rfl rfl ?_) ?_; (focus (omega))
                                refine E.QW.pure rfl rfl rfl (E.PV.move rfl rfl) ?_
                                refine E.QW.pure rfl rfl rfl (E.PV.fieldAddr fa48_0 rfl rfl) ?_
                                refine E.QW.pure rfl rfl rfl (E.PV.load (i := 2) na3 rfl rfl rfl rfl) ?_
                                refine E.QW.pure rfl rfl rfl (E.PV.rem_i64 rfl rfl rfl ?_ ?_) ?_; (focus (omega)); (focus (omega))
                                refine E.QW.pure rfl rfl rfl (E.PV.fieldAddr fa48_1 rfl rfl) ?_
                                refine E.QW.pure rfl rfl rfl (E.PV.load (i := 2) na3 rfl rfl rfl rfl) ?_
                                refine E.QW.pure rfl rfl rfl (E.PV.mul_i64 rfl rfl rfl ?_) ?_; (focus (omega))
                                refine E.QW.pure rfl rfl rfl (E.PV.move rfl rfl) ?_
                                refine E.QW.pure rfl rfl rfl (E.PV.fieldAddr fa48_0 rfl rfl) ?_
                                refine E.QW.pure rfl rfl rfl (E.PV.load (i := 2) na3 rfl rfl rfl rfl) ?_
                                refine E.QW.pure rfl rfl rfl (E.PV.quo_i64 rfl rfl rfl ?_ ?_) ?_; (focus (omega)); (focus (omega))
                                refine E.QW.pure rfl rfl rfl (E.PV.add_i64 rfl rfl rfl ?_) ?_; (focus (omega))
                                (refine E.QW.call nm37 rfl rfl rfl rfl rfl rfl _ (fun w hw => E.Post.val (Distance_ok _ _ _ _ w)) ?_)
                                refine E.QW.pure rfl rfl rfl (E.PV.move rfl rfl) ?_
                                refine E.QW.pure rfl rfl rfl (E.PV.extract rfl rfl rfl) ?_
                                refine E.QW.pure rfl rfl rfl (E.PV.extract rfl rfl rfl) ?_
                                refine E.QW.pure rfl rfl rfl (E.PV.assign rfl rfl) ?_
                                refine E.QW.pure rfl rfl rfl (E.PV.assign rfl rfl) ?_
                                refine E.QW.nil ?_
                                refine E.then_n ?_
                                refine E.CW.seq ?_
                                refine E.CW.put 25 (.int .i64 (Fl.dist a p q)) rfl (by rw [hd2]; rfl) ?_
                                refine E.CW.put 13 (.int .i64 0) rfl (by rw [hd2]; rfl) ?_
                                refine E.CW.region ?_
                                refine E.OW.pure rfl rfl rfl (E.PV.move rfl rfl) ?_
                                refine E.OW.pure rfl rfl rfl (E.PV.move rfl rfl) ?_
                                all_goals (refine E.OW.put 243 (.bool true) (v := .bool true) rfl rfl ?_)
                                all_goals (refine E.OW.pure rfl rfl rfl (E.PV.move rfl rfl) ?_)
                                all_goals (refine E.OW.pure rfl rfl rfl (E.PV.eql rfl rfl rfl) ?_)
                                all_goals (refine E.OW.pure rfl rfl rfl (E.PV.pick_t rfl rfl rfl) ?_)
                                all_goals (refine E.OW.pure rfl rfl rfl (E.PV.move rfl rfl) ?_)
                                all_goals (refine E.OW.put 247 (.bool true) (v := .bool true) rfl rfl ?_)
                                all_goals (refine E.OW.pure rfl rfl rfl (E.PV.move rfl rfl) ?_)
                                all_goals (refine E.OW.pure rfl rfl rfl (E.PV.move rfl rfl) ?_)
                                all_goals (refine E.OW.pure rfl rfl rfl (E.PV.move rfl rfl) ?_)
                                all_goals ((refine E.OW.call nm56 rfl rfl rfl rfl rfl rfl _ (fun w hw => is_ok _ _ _ w) ?_; rintro _ _ ⟨rfl, rfl⟩))
                                all_goals (refine E.OW.pure rfl rfl rfl (E.PV.pick_t rfl rfl rfl) ?_)
                                all_goals (refine E.OW.pure rfl rfl rfl (E.PV.assign rfl rfl) ?_)
                                all_goals (
                                  refine E.OW.nil ?_
                                  refine E.then_n ?_
                                  refine E.CW.ret ?_
                                  refine E.KR.one [] Try.results17 rfl rfl ?_
                                  exact ⟨by first | rfl | (simp; done) | (simp; omega), rfl⟩)))))))))
end Go.Proofs.Ytbofflmmgokkhaa
