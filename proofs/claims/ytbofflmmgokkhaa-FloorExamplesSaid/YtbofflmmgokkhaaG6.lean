/- Walks (printed by gen.py). -/
import Derived.Test.YtbofflmmgokkhaaG1
import Derived.Test.YtbofflmmgokkhaaG2
import Derived.Test.YtbofflmmgokkhaaG3
import Derived.Test.YtbofflmmgokkhaaG5
namespace Go.Proofs.Ytbofflmmgokkhaa
open Go Go.RowKit
set_option linter.unusedSimpArgs false
set_option linter.unusedVariables false

set_option maxRecDepth 100000 in
theorem is_ok (n e m : Int) (w0 : World) :
    Calls Try.prog 56 #[.int .i64 n, .int .i64 e, .int .i64 m] w0 (E.Post w0 (E.Old w0) fun v Hn => v = .bool (decide (e = 0) && decide (n = m)) ∧ Hn = []) := by
  refine E.calls_of (vs := [.int .i64 n, .int .i64 e, .int .i64 m]) (H := []) Try.func56 Try.ntmps56 rfl rfl (E.HA.start w0) ?_
  refine E.CW.seq ?_
  refine E.CW.region ?_
  refine E.OW.pure rfl rfl rfl (E.PV.assign rfl rfl) ?_
  refine E.OW.nil ?_
  refine E.then_n ?_
  refine E.CW.seq ?_
  refine E.CW.region ?_
  refine E.OW.pure rfl rfl rfl (E.PV.move rfl rfl) ?_
  refine E.OW.pure rfl rfl rfl (E.PV.eql rfl rfl rfl) ?_
  refine E.OW.pure rfl rfl rfl (E.PV.move rfl rfl) ?_
  all_goals (refine E.OW.split 9 rfl (fun hc => ?_) (fun hc => ?_) <;> (try simp only [E.b0, E.b1, E.b2, E.b3, E.b4, E.b5, E.b6, E.b7, E.b8, E.b9, E.b10, E.b11, E.b12, E.b13, E.b14, E.b15, E.b16, E.b17, E.b18, E.b19, E.b20, reduceCtorEq] at hc) <;> (try (exfalso; first | assumption | contradiction | omega)))
  all_goals (first | (refine E.OW.off rfl rfl rfl ?_) | (refine E.OW.pure rfl rfl rfl (E.PV.move rfl rfl) ?_))
  all_goals (first | (refine E.OW.off rfl rfl rfl ?_) | (refine E.OW.pure rfl rfl rfl (E.PV.move rfl rfl) ?_))
  all_goals (first | (refine E.OW.off rfl rfl rfl ?_) | (refine E.OW.pure rfl rfl rfl (E.PV.eql rfl rfl rfl) ?_))
  all_goals (first | (refine E.OW.pure rfl rfl rfl (E.PV.pick_t rfl rfl rfl) ?_) | (refine E.OW.pure rfl rfl rfl (E.PV.pick_f rfl rfl rfl) ?_))
  all_goals (refine E.OW.pure rfl rfl rfl (E.PV.assign rfl rfl) ?_)
  all_goals (
    refine E.OW.nil ?_
    refine E.then_n ?_
    refine E.CW.ret ?_
    refine E.KR.one [] Try.results56 rfl rfl ?_
    exact ⟨by simp [*], rfl⟩)

set_option maxRecDepth 100000 in
theorem are_ok (A : Option Addr) (c : Nat) (l : List Int) (e : Int) (A2 : Option Addr) (c2 : Nat) (l2 : List Int) (w0 : World) (hl : l.length ≤ 140737488355328) (hX : E.Rd w0 (E.Old w0) A (E.ints l)) (hY : E.Rd w0 (E.Old w0) A2 (E.ints l2)) :
    Calls Try.prog 62 #[.slice A l.length c, .int .i64 e, .slice A2 l2.length c2] w0 (E.Post w0 (E.Old w0) fun v Hn => v = .bool (decide (e = 0) && decide (l = l2)) ∧ Hn = []) := by
  refine E.calls_of (vs := [.slice A l.length c, .int .i64 e, .slice A2 l2.length c2]) (H := []) Try.func62 Try.ntmps62 rfl rfl (E.HA.start w0) ?_
  refine E.CW.seq ?_
  refine E.CW.region ?_
  refine E.OW.pure rfl rfl rfl (E.PV.assign rfl rfl) ?_
  refine E.OW.nil ?_
  refine E.then_n ?_
  refine E.CW.seq ?_
  refine E.CW.region ?_
  refine E.OW.pure rfl rfl rfl (E.PV.move rfl rfl) ?_
  refine E.OW.pure rfl rfl rfl (E.PV.eql rfl rfl rfl) ?_
  refine E.OW.pure rfl rfl rfl (E.PV.move rfl rfl) ?_
  all_goals (refine E.OW.split 9 rfl (fun hc => ?_) (fun hc => ?_) <;> (try simp only [E.b0, E.b1, E.b2, E.b3, E.b4, E.b5, E.b6, E.b7, E.b8, E.b9, E.b10, E.b11, E.b12, E.b13, E.b14, E.b15, E.b16, E.b17, E.b18, E.b19, E.b20, reduceCtorEq] at hc) <;> (try (exfalso; first | assumption | contradiction | omega)))
  all_goals (first | (refine E.OW.off rfl rfl rfl ?_) | (refine E.OW.pure rfl rfl rfl (E.PV.move rfl rfl) ?_))
  all_goals (first | (refine E.OW.off rfl rfl rfl ?_) | (refine E.OW.pure rfl rfl rfl (E.PV.move rfl rfl) ?_))
  all_goals (first | (refine E.OW.off rfl rfl rfl ?_) | ((refine E.OW.call nm46 rfl rfl rfl rfl rfl rfl _ (fun w hw => rSameInts_ok _ _ _ _ _ _ w ?_ ?_ ?_) ?_; (focus (assumption)); (focus (refine hw.rd ?_; assumption)); (focus (refine hw.rd ?_; assumption)); rintro _ _ ⟨rfl, rfl⟩)))
  all_goals (first | (refine E.OW.pure rfl rfl rfl (E.PV.pick_t rfl rfl rfl) ?_) | (refine E.OW.pure rfl rfl rfl (E.PV.pick_f rfl rfl rfl) ?_))
  all_goals (refine E.OW.pure rfl rfl rfl (E.PV.assign rfl rfl) ?_)
  all_goals (
    refine E.OW.nil ?_
    refine E.then_n ?_
    refine E.CW.ret ?_
    refine E.KR.one [] Try.results62 rfl rfl ?_
    exact ⟨by simp [*], rfl⟩)

set_option maxRecDepth 100000 in
theorem six_ok  (w0 : World) :
    Calls Try.prog 60 #[] w0 (E.Post w0 (E.Old w0) fun v Hn => ∃ A2 c2, v = .agg #[.int .i64 3, .int .i64 2, .slice A2 Fl.six.length c2] ∧ Hn = [E.HP.row 5 1 A2 Fl.six.length c2 (E.u8s Fl.six)]) := by
  refine E.calls_of (vs := []) (H := []) Try.func60 Try.ntmps60 rfl rfl (E.HA.start w0) ?_
  refine E.CW.seq ?_
  refine E.CW.region ?_
  refine E.OW.alloc (in48.zr) rfl rfl rfl rfl rfl (fun B1 => ?_)
  refine E.OW.nil ?_
  refine E.then_n ?_
  refine E.CW.seq ?_
  refine E.CW.region ?_
  refine E.OW.buildSlice (Et := 5) (sz := 1) (cs := E.u8s Fl.six) (ps := [(0, .const (.int .u8 1)), (1, .const (.int .u8 255)), (2, .const (.int .u8 2)), (3, .const (.int .u8 0)), (4, .const (.int .u8 255)), (5, .const (.int .u8 1))]) rfl rfl rfl rfl rfl (by simp) (by unfold maxLen; omega) (fun w => bsl22_6_0_1_2_3_4_5 _ _ _ _ _ _  w) (fun AL => ?_)
  refine E.OW.pure rfl rfl rfl (E.PV.build (ps := [(0, .const (.int .i64 3)), (1, .const (.int .i64 2)), (2, .tmp 1)]) rfl rfl (fun w => bld48_0_1_2 _ _ _ _ _ w)) ?_
  refine E.OW.store (i := 1) in48.size rfl rfl rfl rfl rfl rfl rfl rfl rfl ?_
  refine E.OW.nil ?_
  refine E.then_n ?_
  refine E.CW.ret ?_
  refine E.KR.rv1 [1] Try.results60 (E.rv.cell is48 rfl (E.sli 0 rfl) rfl) rfl ?_
  exact ⟨_, _, rfl, rfl⟩

set_option maxRecDepth 100000 in
theorem four_ok  (w0 : World) :
    Calls Try.prog 63 #[] w0 (E.Post w0 (E.Old w0) fun v Hn => ∃ A2 c2, v = .slice A2 Fl.four.length c2 ∧ Hn = [E.HP.row 5 1 A2 Fl.four.length c2 (E.u8s Fl.four)]) := by
  refine E.calls_of (vs := []) (H := []) Try.func63 Try.ntmps63 rfl rfl (E.HA.start w0) ?_
  refine E.CW.seq ?_
  refine E.CW.region ?_
  refine E.OW.pure rfl rfl rfl (E.PV.assign rfl rfl) ?_
  refine E.OW.nil ?_
  refine E.then_n ?_
  refine E.CW.seq ?_
  refine E.CW.region ?_
  refine E.OW.buildSlice (Et := 5) (sz := 1) (cs := E.u8s Fl.four) (ps := [(0, .const (.int .u8 1)), (1, .const (.int .u8 1)), (2, .const (.int .u8 0)), (3, .const (.int .u8 2))]) rfl rfl rfl rfl rfl (by simp) (by unfold maxLen; omega) (fun w => bsl22_4_0_1_2_3 _ _ _ _  w) (fun AL => ?_)
  refine E.OW.pure rfl rfl rfl (E.PV.assign rfl rfl) ?_
  refine E.OW.nil ?_
  refine E.then_n ?_
  refine E.CW.ret ?_
  refine E.KR.one [0] Try.results63 rfl rfl ?_
  exact ⟨_, _, rfl, rfl⟩

set_option maxRecDepth 100000 in
theorem alive_ok  (w0 : World) :
    Calls Try.prog 54 #[] w0 (E.Post w0 (E.Old w0) fun v Hn => v = .bool true ∧ Hn = []) := by
  refine E.calls_of (vs := []) (H := []) Try.func54 Try.ntmps54 rfl rfl (E.HA.start w0) ?_
  refine E.CW.seq ?_
  refine E.CW.region ?_
  refine E.OW.pure rfl rfl rfl (E.PV.assign rfl rfl) ?_
  refine E.OW.nil ?_
  refine E.then_n ?_
  refine E.CW.seq ?_
  refine E.CW.region ?_
  (refine E.OW.call nm27 rfl rfl rfl rfl rfl rfl _ (fun w hw => Cells_ok _ _ w) ?_; rintro _ _ ⟨rfl, rfl⟩)
  refine E.OW.pure rfl rfl rfl (E.PV.move rfl rfl) ?_
  refine E.OW.pure rfl rfl rfl (E.PV.extract rfl rfl rfl) ?_
  refine E.OW.pure rfl rfl rfl (E.PV.extract rfl rfl rfl) ?_
  refine E.OW.pure rfl rfl rfl (E.PV.assign rfl rfl) ?_
  refine E.OW.pure rfl rfl rfl (E.PV.assign rfl rfl) ?_
  refine E.OW.nil ?_
  refine E.then_n ?_
  refine E.CW.seq ?_
  refine E.CW.region ?_
  (refine E.OW.call nm29 rfl rfl rfl rfl rfl rfl _ (fun w hw => Locate_ok _ _ _ w) ?_; rintro _ _ ⟨rfl, rfl⟩)
  refine E.OW.pure rfl rfl rfl (E.PV.move rfl rfl) ?_
  refine E.OW.pure rfl rfl rfl (E.PV.extract rfl rfl rfl) ?_
  refine E.OW.pure rfl rfl rfl (E.PV.extract rfl rfl rfl) ?_
  refine E.OW.pure rfl rfl rfl (E.PV.extract rfl rfl rfl) ?_
  refine E.OW.pure rfl rfl rfl (E.PV.assign rfl rfl) ?_
  refine E.OW.pure rfl rfl rfl (E.PV.assign rfl rfl) ?_
  refine E.OW.pure rfl rfl rfl (E.PV.assign rfl rfl) ?_
  refine E.OW.nil ?_
  refine E.then_n ?_
  refine E.CW.seq ?_
  refine E.CW.region ?_
  (refine E.OW.call nm31 rfl rfl rfl rfl rfl rfl _ (fun w hw => Place_ok _ _ _ _ w) ?_; rintro _ _ ⟨rfl, rfl⟩)
  refine E.OW.pure rfl rfl rfl (E.PV.move rfl rfl) ?_
  refine E.OW.pure rfl rfl rfl (E.PV.extract rfl rfl rfl) ?_
  refine E.OW.pure rfl rfl rfl (E.PV.extract rfl rfl rfl) ?_
  refine E.OW.pure rfl rfl rfl (E.PV.assign rfl rfl) ?_
  refine E.OW.pure rfl rfl rfl (E.PV.assign rfl rfl) ?_
  refine E.OW.nil ?_
  refine E.then_n ?_
  refine E.CW.seq ?_
  refine E.CW.region ?_
  (refine E.OW.call nm33 rfl rfl rfl rfl rfl rfl _ (fun w hw => Step_ok _ _ _ _ w) ?_; rintro _ _ ⟨rfl, rfl⟩)
  refine E.OW.pure rfl rfl rfl (E.PV.move rfl rfl) ?_
  refine E.OW.pure rfl rfl rfl (E.PV.extract rfl rfl rfl) ?_
  refine E.OW.pure rfl rfl rfl (E.PV.extract rfl rfl rfl) ?_
  refine E.OW.pure rfl rfl rfl (E.PV.assign rfl rfl) ?_
  refine E.OW.pure rfl rfl rfl (E.PV.assign rfl rfl) ?_
  refine E.OW.nil ?_
  refine E.then_n ?_
  refine E.CW.seq ?_
  refine E.CW.seq ?_
  refine E.CW.region ?_
  refine E.OW.pure rfl rfl rfl (E.PV.move rfl rfl) ?_
  refine E.OW.pure rfl rfl rfl (E.PV.move rfl rfl) ?_
  (refine E.OW.call nm56 rfl rfl rfl rfl rfl rfl _ (fun w hw => is_ok _ _ _ w) ?_; rintro _ _ ⟨rfl, rfl⟩)
  refine E.OW.pure rfl rfl rfl (E.PV.not rfl rfl) ?_
  refine E.OW.pure rfl rfl rfl (E.PV.move rfl rfl) ?_
  all_goals (refine E.OW.put 38 (.bool false) (v := .bool false) rfl rfl ?_)
  all_goals (refine E.OW.pure rfl rfl rfl (E.PV.move rfl rfl) ?_)
  all_goals (refine E.OW.pure rfl rfl rfl (E.PV.neq rfl rfl rfl) ?_)
  all_goals (refine E.OW.pure rfl rfl rfl (E.PV.pick_f rfl rfl rfl) ?_)
  all_goals (refine E.OW.pure rfl rfl rfl (E.PV.move rfl rfl) ?_)
  all_goals (refine E.OW.put 42 (.bool false) (v := .bool false) rfl rfl ?_)
  all_goals (refine E.OW.pure rfl rfl rfl (E.PV.move rfl rfl) ?_)
  all_goals (refine E.OW.pure rfl rfl rfl (E.PV.neq rfl rfl rfl) ?_)
  all_goals (refine E.OW.pure rfl rfl rfl (E.PV.pick_f rfl rfl rfl) ?_)
  all_goals (refine E.OW.pure rfl rfl rfl (E.PV.move rfl rfl) ?_)
  all_goals (refine E.OW.put 46 (.bool false) (v := .bool false) rfl rfl ?_)
  all_goals (refine E.OW.pure rfl rfl rfl (E.PV.move rfl rfl) ?_)
  all_goals (refine E.OW.pure rfl rfl rfl (E.PV.neq rfl rfl rfl) ?_)
  all_goals (refine E.OW.pure rfl rfl rfl (E.PV.pick_f rfl rfl rfl) ?_)
  all_goals (refine E.OW.pure rfl rfl rfl (E.PV.move rfl rfl) ?_)
  all_goals (refine E.OW.put 50 (.bool false) (v := .bool false) rfl rfl ?_)
  all_goals (refine E.OW.pure rfl rfl rfl (E.PV.move rfl rfl) ?_)
  all_goals (refine E.OW.pure rfl rfl rfl (E.PV.move rfl rfl) ?_)
  all_goals ((refine E.OW.call nm56 rfl rfl rfl rfl rfl rfl _ (fun w hw => is_ok _ _ _ w) ?_; rintro _ _ ⟨rfl, rfl⟩))
  all_goals (refine E.OW.pure rfl rfl rfl (E.PV.not rfl rfl) ?_)
  all_goals (refine E.OW.pure rfl rfl rfl (E.PV.pick_f rfl rfl rfl) ?_)
  all_goals (refine E.OW.pure rfl rfl rfl (E.PV.move rfl rfl) ?_)
  all_goals (refine E.OW.put 56 (.bool false) (v := .bool false) rfl rfl ?_)
  all_goals (refine E.OW.pure rfl rfl rfl (E.PV.move rfl rfl) ?_)
  all_goals (refine E.OW.pure rfl rfl rfl (E.PV.move rfl rfl) ?_)
  all_goals ((refine E.OW.call nm56 rfl rfl rfl rfl rfl rfl _ (fun w hw => is_ok _ _ _ w) ?_; rintro _ _ ⟨rfl, rfl⟩))
  all_goals (refine E.OW.pure rfl rfl rfl (E.PV.not rfl rfl) ?_)
  all_goals (refine E.OW.pure rfl rfl rfl (E.PV.pick_f rfl rfl rfl) ?_)
  all_goals (
    refine E.OW.nil ?_
    refine E.then_n ?_
    refine E.CW.cond rfl (fun hc => ?_) (fun hc => ?_)
    · (cases hc; done)
    · simp only [E.b0, E.b1, E.b2, E.b3, E.b4, E.b5, E.b6, E.b7, E.b8, E.b9, E.b10, E.b11, E.b12, E.b13, E.b14, E.b15, E.b16, E.b17, E.b18, E.b19, E.b20, reduceCtorEq] at hc
      all_goals (
        refine E.CW.skip ?_
        refine E.then_n ?_
        refine E.CW.seq ?_
        refine E.CW.region ?_
        (refine E.OW.call nm60 rfl rfl rfl rfl rfl rfl _ (fun w hw => six_ok w) ?_; rintro _ _ ⟨_, _, rfl, rfl⟩)
        (refine E.OW.call nm44 rfl rfl rfl rfl rfl rfl _ (fun w hw => Private_ok _ _ _ _ _ _ w ?_ ?_) ?_; (focus (simp; done)); (focus (exact hw.rdrow (i := 0) rfl)); rintro _ _ ⟨_, _, rfl, rfl⟩)
        refine E.OW.pure rfl rfl rfl (E.PV.move rfl rfl) ?_
        refine E.OW.pure rfl rfl rfl (E.PV.extract rfl rfl rfl) ?_
        refine E.OW.pure rfl rfl rfl (E.PV.extract rfl rfl rfl) ?_
        refine E.OW.pure rfl rfl rfl (E.PV.assign rfl rfl) ?_
        refine E.OW.pure rfl rfl rfl (E.PV.assign rfl rfl) ?_
        refine E.OW.nil ?_
        refine E.then_n ?_
        refine E.CW.seq ?_
        refine E.CW.region ?_
        (refine E.OW.call nm60 rfl rfl rfl rfl rfl rfl _ (fun w hw => six_ok w) ?_; rintro _ _ ⟨_, _, rfl, rfl⟩)
        (refine E.OW.call nm47 rfl rfl rfl rfl rfl rfl _ (fun w hw => Aisles_ok _ _ _ _ _ w ?_ ?_) ?_; (focus (simp; done)); (focus (exact hw.rdrow (i := 0) rfl)); rintro _ _ ⟨_, _, rfl, rfl⟩)
        refine E.OW.pure rfl rfl rfl (E.PV.move rfl rfl) ?_
        refine E.OW.pure rfl rfl rfl (E.PV.extract rfl rfl rfl) ?_
        refine E.OW.pure rfl rfl rfl (E.PV.extract rfl rfl rfl) ?_
        refine E.OW.pure rfl rfl rfl (E.PV.assign rfl rfl) ?_
        refine E.OW.pure rfl rfl rfl (E.PV.assign rfl rfl) ?_
        refine E.OW.nil ?_
        refine E.then_n ?_
        refine E.CW.seq ?_
        refine E.CW.region ?_
        (refine E.OW.call nm60 rfl rfl rfl rfl rfl rfl _ (fun w hw => six_ok w) ?_; rintro _ _ ⟨_, _, rfl, rfl⟩)
        (refine E.OW.call nm50 rfl rfl rfl rfl rfl rfl _ (fun w hw => Draw_ok _ _ _ _ _ w ?_ ?_) ?_; (focus (simp; done)); (focus (exact hw.rdrow (i := 0) rfl)); rintro _ _ ⟨rfl, rfl⟩)
        refine E.OW.pure rfl rfl rfl (E.PV.move rfl rfl) ?_
        refine E.OW.pure rfl rfl rfl (E.PV.extract rfl rfl rfl) ?_
        refine E.OW.pure rfl rfl rfl (E.PV.extract rfl rfl rfl) ?_
        refine E.OW.pure rfl rfl rfl (E.PV.assign rfl rfl) ?_
        refine E.OW.pure rfl rfl rfl (E.PV.assign rfl rfl) ?_
        refine E.OW.nil ?_
        refine E.then_n ?_
        refine E.CW.seq ?_
        refine E.CW.region ?_
        (refine E.OW.call nm52 rfl rfl rfl rfl rfl rfl _ (fun w hw => Parse_ok [48, 46, 49, 10, 35, 46, 48, 10] w (by decide)) ?_; rintro _ _ ⟨_, _, rfl, rfl⟩)
        refine E.OW.pure rfl rfl rfl (E.PV.move rfl rfl) ?_
        refine E.OW.pure rfl rfl rfl (E.PV.extract rfl rfl rfl) ?_
        refine E.OW.pure rfl rfl rfl (E.PV.extract rfl rfl rfl) ?_
        refine E.OW.alloc (in48.zr) rfl rfl rfl rfl rfl (fun B1 => ?_)
        refine E.OW.store (i := 0) in48.size rfl rfl rfl rfl rfl rfl rfl rfl rfl ?_
        refine E.OW.pure rfl rfl rfl (E.PV.assign rfl rfl) ?_
        refine E.OW.nil ?_
        refine E.then_n ?_
        refine E.CW.seq ?_
        refine E.CW.seq ?_
        refine E.CW.drawx mixed [] rfl ?_
        all_goals (refine E.AW.first 0 rfl (by kernel_rfl) (by kernel_rfl) (by kernel_rfl) rfl rfl rfl (E.PV.move rfl rfl) ?_)
        all_goals (refine E.AW.first 1 rfl (by kernel_rfl) (by kernel_rfl) (by kernel_rfl) rfl rfl rfl (E.PV.move rfl rfl) ?_)
        all_goals (refine E.AW.one 2 (by kernel_rfl) rfl ?_)
        all_goals (refine E.OW.buildSlice (Et := 3) (sz := 1) (cs := E.ints [0, 5]) (ps := [(0, .const (.int .i64 0)), (1, .const (.int .i64 5))]) rfl rfl rfl rfl rfl (by simp) (by unfold maxLen; omega) (fun w => bsl54_2_0_1 _ _  w) (fun AL => ?_))
        all_goals (refine E.AW.nil [] rfl ?_)
        all_goals (refine E.AW.one 3 (by kernel_rfl) rfl ?_)
        all_goals ((refine E.OW.call nm62 rfl rfl rfl rfl rfl rfl _ (fun w hw => are_ok _ _ _ _ _ _ [0, 5] w ?_ ?_ ?_) ?_; (focus (decide)); (focus (exact hw.rdrow (i := 6) rfl)); (focus (exact hw.rdrow (i := 0) rfl)); rintro _ _ ⟨rfl, rfl⟩))
        all_goals (refine E.AW.nil [] rfl ?_)
        all_goals (refine E.AW.first 4 rfl (by kernel_rfl) (by kernel_rfl) (by kernel_rfl) rfl rfl rfl (E.PV.not rfl rfl) ?_)
        all_goals (refine E.AW.first 5 rfl (by kernel_rfl) (by kernel_rfl) (by kernel_rfl) rfl rfl rfl (E.PV.move rfl rfl) ?_)
        all_goals (refine E.AW.put 86 (.bool false) (v := .bool false) rfl rfl ?_)
        all_goals (refine E.AW.first 6 rfl (by kernel_rfl) (by kernel_rfl) (by kernel_rfl) rfl rfl rfl (E.PV.move rfl rfl) ?_)
        all_goals (refine E.AW.first 7 rfl (by kernel_rfl) (by kernel_rfl) (by kernel_rfl) rfl rfl rfl (E.PV.move rfl rfl) ?_)
        all_goals (refine E.AW.one 8 (by kernel_rfl) rfl ?_)
        all_goals (refine E.OW.buildSlice (Et := 3) (sz := 1) (cs := E.ints [1, 4]) (ps := [(0, .const (.int .i64 1)), (1, .const (.int .i64 4))]) rfl rfl rfl rfl rfl (by simp) (by unfold maxLen; omega) (fun w => bsl54_2_0_1 _ _  w) (fun AL => ?_))
        all_goals (refine E.AW.nil [] rfl ?_)
        all_goals (refine E.AW.one 9 (by kernel_rfl) rfl ?_)
        all_goals ((refine E.OW.call nm62 rfl rfl rfl rfl rfl rfl _ (fun w hw => are_ok _ _ _ _ _ _ [1, 4] w ?_ ?_ ?_) ?_; (focus (decide)); (focus (exact hw.rdrow (i := 5) rfl)); (focus (exact hw.rdrow (i := 0) rfl)); rintro _ _ ⟨rfl, rfl⟩))
        all_goals (refine E.AW.nil [] rfl ?_)
        all_goals (refine E.AW.first 10 rfl (by kernel_rfl) (by kernel_rfl) (by kernel_rfl) rfl rfl rfl (E.PV.not rfl rfl) ?_)
        all_goals (refine E.AW.first 11 rfl (by kernel_rfl) (by kernel_rfl) (by kernel_rfl) rfl rfl rfl (E.PV.pick_f rfl rfl rfl) ?_)
        all_goals (refine E.AW.first 12 rfl (by kernel_rfl) (by kernel_rfl) (by kernel_rfl) rfl rfl rfl (E.PV.move rfl rfl) ?_)
        all_goals (refine E.AW.put 93 (.bool false) (v := .bool false) rfl rfl ?_)
        all_goals (refine E.AW.first 13 rfl (by kernel_rfl) (by kernel_rfl) (by kernel_rfl) rfl rfl rfl (E.PV.move rfl rfl) ?_)
        all_goals (refine E.AW.first 14 rfl (by kernel_rfl) (by kernel_rfl) (by kernel_rfl) rfl rfl rfl (E.PV.neq rfl rfl rfl) ?_)
        all_goals (refine E.AW.first 15 rfl (by kernel_rfl) (by kernel_rfl) (by kernel_rfl) rfl rfl rfl (E.PV.pick_f rfl rfl rfl) ?_)
        all_goals (refine E.AW.first 16 rfl (by kernel_rfl) (by kernel_rfl) (by kernel_rfl) rfl rfl rfl (E.PV.move rfl rfl) ?_)
        all_goals (refine E.AW.put 97 (.bool false) (v := .bool false) rfl rfl ?_)
        all_goals (refine E.AW.first 17 rfl (by kernel_rfl) (by kernel_rfl) (by kernel_rfl) rfl rfl rfl (E.PV.move rfl rfl) ?_)
        all_goals (refine E.AW.first 18 rfl (by kernel_rfl) (by kernel_rfl) (by kernel_rfl) rfl rfl rfl (E.PV.sne rfl rfl rfl) ?_)
        all_goals (refine E.AW.first 19 rfl (by kernel_rfl) (by kernel_rfl) (by kernel_rfl) rfl rfl rfl (E.PV.pick_f rfl rfl rfl) ?_)
        all_goals (refine E.AW.first 20 rfl (by kernel_rfl) (by kernel_rfl) (by kernel_rfl) rfl rfl rfl (E.PV.move rfl rfl) ?_)
        all_goals (refine E.AW.put 101 (.bool false) (v := .bool false) rfl rfl ?_)
        all_goals (refine E.AW.first 21 rfl (by kernel_rfl) (by kernel_rfl) (by kernel_rfl) rfl rfl rfl (E.PV.move rfl rfl) ?_)
        all_goals (refine E.AW.first 22 rfl (by kernel_rfl) (by kernel_rfl) (by kernel_rfl) rfl rfl rfl (E.PV.neq rfl rfl rfl) ?_)
        all_goals (refine E.AW.first 23 rfl (by kernel_rfl) (by kernel_rfl) (by kernel_rfl) rfl rfl rfl (E.PV.pick_f rfl rfl rfl) ?_)
        all_goals (refine E.AW.first 24 rfl (by kernel_rfl) (by kernel_rfl) (by kernel_rfl) rfl rfl rfl (E.PV.move rfl rfl) ?_)
        all_goals (refine E.AW.put 105 (.bool false) (v := .bool false) rfl rfl ?_)
        all_goals (
          refine E.AW.two 25 26 (by kernel_rfl) rfl rfl ?ga ?gb
          case' ga =>
              all_goals (refine E.OW.pure rfl rfl rfl (E.PV.loads (i := 2) is48 rfl rfl rfl rfl) ?_)
              all_goals (refine E.AW.nil [] rfl ?_)
              all_goals (refine E.AW.one 26 (by kernel_rfl) rfl ?_)
              all_goals ((refine E.OW.call nm60 rfl rfl rfl rfl rfl rfl _ (fun w hw => six_ok w) ?_; rintro _ _ ⟨_, _, rfl, rfl⟩))
              all_goals (refine E.AW.nil [] rfl ?_)
              all_goals (refine E.AW.one 27 (by kernel_rfl) rfl ?_)
              all_goals ((refine E.OW.call nm49 rfl rfl rfl rfl rfl rfl _ (fun w hw => rSame_ok _ _ _ _ _ _ _ _ _ _ w ?_ ?_) ?_; (focus (exact hw.rdrow (i := 4) rfl)); (focus (exact hw.rdrow (i := 0) rfl)); rintro _ _ ⟨rfl, rfl⟩))
              all_goals (refine E.AW.nil [] rfl ?_)
              all_goals (refine E.AW.first 28 rfl (by kernel_rfl) (by kernel_rfl) (by kernel_rfl) rfl rfl rfl (E.PV.not rfl rfl) ?_)
              all_goals (refine E.AW.first 29 rfl (by kernel_rfl) (by kernel_rfl) (by kernel_rfl) rfl rfl rfl (E.PV.pick_f rfl rfl rfl) ?_)
              all_goals (refine E.AW.done (by kernel_rfl) ?_)
          case' gb =>
              all_goals ((refine E.OW.call nm60 rfl rfl rfl rfl rfl rfl _ (fun w hw => six_ok w) ?_; rintro _ _ ⟨_, _, rfl, rfl⟩))
              all_goals (refine E.AW.nil [] rfl ?_)
              all_goals (refine E.AW.one 25 (by kernel_rfl) rfl ?_)
              all_goals (refine E.OW.pure rfl rfl rfl (E.PV.loads (i := 3) is48 rfl rfl rfl rfl) ?_)
              all_goals (refine E.AW.nil [] rfl ?_)
              all_goals (refine E.AW.one 27 (by kernel_rfl) rfl ?_)
              all_goals ((refine E.OW.call nm49 rfl rfl rfl rfl rfl rfl _ (fun w hw => rSame_ok _ _ _ _ _ _ _ _ _ _ w ?_ ?_) ?_; (focus (exact hw.rdrow (i := 4) rfl)); (focus (exact hw.rdrow (i := 0) rfl)); rintro _ _ ⟨rfl, rfl⟩))
              all_goals (refine E.AW.nil [] rfl ?_)
              all_goals (refine E.AW.first 28 rfl (by kernel_rfl) (by kernel_rfl) (by kernel_rfl) rfl rfl rfl (E.PV.not rfl rfl) ?_)
              all_goals (refine E.AW.first 29 rfl (by kernel_rfl) (by kernel_rfl) (by kernel_rfl) rfl rfl rfl (E.PV.pick_f rfl rfl rfl) ?_)
              all_goals (refine E.AW.done (by kernel_rfl) ?_))
        all_goals (
          skip
          refine E.then_n ?_
          refine E.CW.cond rfl (fun hc => ?_) (fun hc => ?_)
          · (cases hc; done)
          · simp only [E.b0, E.b1, E.b2, E.b3, E.b4, E.b5, E.b6, E.b7, E.b8, E.b9, E.b10, E.b11, E.b12, E.b13, E.b14, E.b15, E.b16, E.b17, E.b18, E.b19, E.b20, reduceCtorEq] at hc
            all_goals (
              refine E.CW.skip ?_
              refine E.then_n ?_
              refine E.CW.seq ?_
              refine E.CW.region ?_
              (refine E.OW.call nm63 rfl rfl rfl rfl rfl rfl _ (fun w hw => four_ok w) ?_; rintro _ _ ⟨_, _, rfl, rfl⟩)
              (refine E.OW.call nm19 rfl rfl rfl rfl rfl rfl _ (fun w hw => SliceOwner_ok _ _ _ _ ?_ w ?_ ?_) ?_; (focus (omega)); (focus (simp; done)); (focus (exact hw.rdrow (i := 0) rfl)); rintro _ _ ⟨rfl, rfl⟩)
              refine E.OW.pure rfl rfl rfl (E.PV.move rfl rfl) ?_
              refine E.OW.pure rfl rfl rfl (E.PV.extract rfl rfl rfl) ?_
              refine E.OW.pure rfl rfl rfl (E.PV.extract rfl rfl rfl) ?_
              refine E.OW.pure rfl rfl rfl (E.PV.assign rfl rfl) ?_
              refine E.OW.pure rfl rfl rfl (E.PV.assign rfl rfl) ?_
              refine E.OW.nil ?_
              refine E.then_n ?_
              refine E.CW.seq ?_
              refine E.CW.region ?_
              (refine E.OW.call nm63 rfl rfl rfl rfl rfl rfl _ (fun w hw => four_ok w) ?_; rintro _ _ ⟨_, _, rfl, rfl⟩)
              (refine E.OW.call nm23 rfl rfl rfl rfl rfl rfl _ (fun w hw => SliceLeft_ok _ _ _ _ ?_ _ w ?_ ?_) ?_; (focus (omega)); (focus (simp; done)); (focus (exact hw.rdrow (i := 0) rfl)); rintro _ _ ⟨rfl, rfl⟩)
              refine E.OW.pure rfl rfl rfl (E.PV.move rfl rfl) ?_
              refine E.OW.pure rfl rfl rfl (E.PV.extract rfl rfl rfl) ?_
              refine E.OW.pure rfl rfl rfl (E.PV.extract rfl rfl rfl) ?_
              refine E.OW.pure rfl rfl rfl (E.PV.assign rfl rfl) ?_
              refine E.OW.pure rfl rfl rfl (E.PV.assign rfl rfl) ?_
              refine E.OW.nil ?_
              refine E.then_n ?_
              refine E.CW.seq ?_
              refine E.CW.region ?_
              (refine E.OW.call nm63 rfl rfl rfl rfl rfl rfl _ (fun w hw => four_ok w) ?_; rintro _ _ ⟨_, _, rfl, rfl⟩)
              (refine E.OW.call nm25 rfl rfl rfl rfl rfl rfl _ (fun w hw => SliceWait_ok _ _ _ _ ?_ _ w ?_ ?_) ?_; (focus (omega)); (focus (simp; done)); (focus (exact hw.rdrow (i := 0) rfl)); rintro _ _ ⟨rfl, rfl⟩)
              refine E.OW.pure rfl rfl rfl (E.PV.move rfl rfl) ?_
              refine E.OW.pure rfl rfl rfl (E.PV.extract rfl rfl rfl) ?_
              refine E.OW.pure rfl rfl rfl (E.PV.extract rfl rfl rfl) ?_
              refine E.OW.pure rfl rfl rfl (E.PV.assign rfl rfl) ?_
              refine E.OW.pure rfl rfl rfl (E.PV.assign rfl rfl) ?_
              refine E.OW.nil ?_
              refine E.then_n ?_
              refine E.CW.seq ?_
              refine E.CW.region ?_
              refine E.OW.pure rfl rfl rfl (E.PV.move rfl rfl) ?_
              refine E.OW.pure rfl rfl rfl (E.PV.move rfl rfl) ?_
              (refine E.OW.call nm56 rfl rfl rfl rfl rfl rfl _ (fun w hw => is_ok _ _ _ w) ?_; rintro _ _ ⟨rfl, rfl⟩)
              refine E.OW.pure rfl rfl rfl (E.PV.move rfl rfl) ?_
              all_goals (refine E.OW.put 129 (.bool true) (v := .bool true) rfl rfl ?_)
              all_goals (refine E.OW.pure rfl rfl rfl (E.PV.move rfl rfl) ?_)
              all_goals (refine E.OW.pure rfl rfl rfl (E.PV.move rfl rfl) ?_)
              all_goals ((refine E.OW.call nm56 rfl rfl rfl rfl rfl rfl _ (fun w hw => is_ok _ _ _ w) ?_; rintro _ _ ⟨rfl, rfl⟩))
              all_goals (refine E.OW.pure rfl rfl rfl (E.PV.pick_t rfl rfl rfl) ?_)
              all_goals (refine E.OW.pure rfl rfl rfl (E.PV.move rfl rfl) ?_)
              all_goals (refine E.OW.put 134 (.bool true) (v := .bool true) rfl rfl ?_)
              all_goals (refine E.OW.pure rfl rfl rfl (E.PV.move rfl rfl) ?_)
              all_goals (refine E.OW.pure rfl rfl rfl (E.PV.move rfl rfl) ?_)
              all_goals ((refine E.OW.call nm56 rfl rfl rfl rfl rfl rfl _ (fun w hw => is_ok _ _ _ w) ?_; rintro _ _ ⟨rfl, rfl⟩))
              all_goals (refine E.OW.pure rfl rfl rfl (E.PV.pick_t rfl rfl rfl) ?_)
              all_goals (refine E.OW.pure rfl rfl rfl (E.PV.assign rfl rfl) ?_)
              all_goals (
                refine E.OW.nil ?_
                refine E.then_n ?_
                refine E.CW.ret ?_
                refine E.KR.one [] Try.results54 rfl rfl ?_
                exact ⟨rfl, rfl⟩)))))
end Go.Proofs.Ytbofflmmgokkhaa
