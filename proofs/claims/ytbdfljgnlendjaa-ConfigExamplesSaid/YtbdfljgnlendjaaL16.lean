/- Walks (printed by gen.py). -/
import Derived.Test.YtbdfljgnlendjaaG12
import Derived.Test.YtbdfljgnlendjaaCk
namespace Go.Proofs.Ytbdfljgnlendjaa
open Go Go.RowKit
set_option linter.unusedSimpArgs false
set_option linter.unusedVariables false

set_option maxHeartbeats 1000000 in
set_option maxRecDepth 100000 in
theorem ConfigExamples_ok  (w0 : World) :
    Calls Try.prog 9 #[] w0 (E.Post w0 (E.Old w0) fun v Hn => v = .bool true ∧ Hn = []) := by
  refine E.calls_of (vs := []) (H := []) Try.func9 Try.ntmps9 rfl rfl (E.HA.start w0) ?_
  refine E.CW.seq ?_
  refine E.CW.region ?_
  refine E.OW.pure rfl rfl rfl (E.PV.assign rfl rfl) ?_
  refine E.OW.nil ?_
  refine E.then_n ?_
  refine E.CW.seq ?_
  refine E.CW.region ?_
  (refine E.OW.call nm43 rfl rfl rfl rfl rfl rfl _ (fun w hw => one_ok _ w) ?_; rintro _ _ ⟨mO0, rfl, rfl, hmO0⟩)
  (refine E.OW.call nm43 rfl rfl rfl rfl rfl rfl _ (fun w hw => one_ok _ w) ?_; rintro _ _ ⟨mO1, rfl, rfl, hmO1⟩)
  refine E.OW.alloc (in33.zr) rfl rfl rfl rfl rfl (fun B1 => ?_)
  refine E.OW.alloc (in33.zr) rfl rfl rfl rfl rfl (fun B2 => ?_)
  refine E.OW.store (i := 1) in33.size rfl rfl rfl rfl rfl rfl rfl rfl rfl ?_
  refine E.OW.store (i := 1) in33.size rfl rfl rfl rfl rfl rfl rfl rfl rfl ?_
  refine E.OW.nil ?_
  refine E.then_n ?_
  refine E.CW.seq ?_
  have hfO0 : mO0.q.fit := hmO0 ▸ Cf.fit_one (by unfold Cf.i64; omega)
  have hfO1 : mO1.q.fit := hmO1 ▸ Cf.fit_one (by unfold Cf.i64; omega)
  have hXq : (⟨⟨mO0.q.h, mO0.q.p, mO0.q.d, 9, mO0.q.n2, mO0.q.n3, mO0.q.n4, mO0.q.n5⟩, mO0.A1, mO0.A2, mO0.A3, mO0.c1, mO0.c2, mO0.c3⟩ : E.Tm).q = Cf.oneX := by show (⟨mO0.q.h, mO0.q.p, mO0.q.d, 9, mO0.q.n2, mO0.q.n3, mO0.q.n4, mO0.q.n5⟩ : Cf.T) = _; rw [hmO0]; rfl
  have hYq : (⟨⟨mO1.q.h, [], mO1.q.d, mO1.q.n1, mO1.q.n2, mO1.q.n3, mO1.q.n4, mO1.q.n5⟩, mO1.A1, none, mO1.A3, mO1.c1, 0, mO1.c3⟩ : E.Tm).q = Cf.oneY := by show (⟨mO1.q.h, [], mO1.q.d, mO1.q.n1, mO1.q.n2, mO1.q.n3, mO1.q.n4, mO1.q.n5⟩ : Cf.T) = _; rw [hmO1]; rfl
  have hXf : (⟨⟨mO0.q.h, mO0.q.p, mO0.q.d, 9, mO0.q.n2, mO0.q.n3, mO0.q.n4, mO0.q.n5⟩, mO0.A1, mO0.A2, mO0.A3, mO0.c1, mO0.c2, mO0.c3⟩ : E.Tm).q.fit := by rw [hXq]; exact Cf.fit_X
  have hYf : (⟨⟨mO1.q.h, [], mO1.q.d, mO1.q.n1, mO1.q.n2, mO1.q.n3, mO1.q.n4, mO1.q.n5⟩, mO1.A1, none, mO1.A3, mO1.c1, 0, mO1.c3⟩ : E.Tm).q.fit := by rw [hYq]; exact Cf.fit_Y
  refine E.CW.region ?_
  refine E.OW.pure rfl rfl rfl (E.PV.fieldAddr fa33_3 rfl rfl) ?_
  refine E.OW.store (i := 1) in3.size rfl rfl rfl rfl rfl rfl rfl rfl rfl ?_
  refine E.OW.nil ?_
  refine E.then_n ?_
  refine E.CW.seq ?_
  refine E.CW.region ?_
  refine E.OW.pure rfl rfl rfl (E.PV.fieldAddr fa33_1 rfl rfl) ?_
  refine E.OW.store (i := 1) in31.size rfl rfl rfl rfl rfl rfl rfl rfl rfl ?_
  refine E.OW.nil ?_
  refine E.then_n ?_
  refine E.CW.seq ?_
  refine E.CW.region ?_
  (refine E.OW.call nm44 rfl rfl rfl rfl rfl rfl _ (fun w hw => six_ok w) ?_; rintro _ _ ⟨AX0, rfl, rfl⟩)
  (refine E.OW.call nm43 rfl rfl rfl rfl rfl rfl _ (fun w hw => one_ok _ w) ?_; rintro _ _ ⟨mO2, rfl, rfl, hmO2⟩)
  have hfO2 : mO2.q.fit := hmO2 ▸ Cf.fit_one (by unfold Cf.i64; omega)
  (refine E.OW.call nm28 rfl rfl rfl rfl rfl rfl _ (fun w hw => CT_ok 3 2 _ _ Cf.six 0 mO2 w ?_ ?_ ?_ ?_) ?_; (focus (decide)); (focus (exact hw.rdrow (i := 1) rfl)); (focus (exact hw.rdtm (i := 0) rfl)); (focus (assumption)); rintro _ _ ⟨rfl, rfl⟩)
  refine E.OW.put 26 (.int .i64 70) rfl (congrArg (Value.int .i64) (by rw [hmO2]; exact Cf.x_1)) ?_
  refine E.OW.pure rfl rfl rfl (E.PV.eql rfl rfl rfl) ?_
  refine E.OW.pure rfl rfl rfl (E.PV.move rfl rfl) ?_
  all_goals (refine E.OW.put 28 (.bool true) (v := .bool true) rfl rfl ?_)
  all_goals ((refine E.OW.call nm44 rfl rfl rfl rfl rfl rfl _ (fun w hw => six_ok w) ?_; rintro _ _ ⟨AX1, rfl, rfl⟩))
  all_goals ((refine E.OW.call nm43 rfl rfl rfl rfl rfl rfl _ (fun w hw => one_ok _ w) ?_; rintro _ _ ⟨mO3, rfl, rfl, hmO3⟩))
  all_goals (have hfO3 : mO3.q.fit := hmO3 ▸ Cf.fit_one (by unfold Cf.i64; omega))
  all_goals ((refine E.OW.call nm28 rfl rfl rfl rfl rfl rfl _ (fun w hw => CT_ok 3 2 _ _ Cf.six 0 mO3 w ?_ ?_ ?_ ?_) ?_; (focus (decide)); (focus (exact hw.rdrow (i := 1) rfl)); (focus (exact hw.rdtm (i := 0) rfl)); (focus (assumption)); rintro _ _ ⟨rfl, rfl⟩))
  all_goals (refine E.OW.put 31 (.int .i64 70) rfl (congrArg (Value.int .i64) (by rw [hmO3]; exact Cf.x_5)) ?_)
  all_goals (refine E.OW.pure rfl rfl rfl (E.PV.eql rfl rfl rfl) ?_)
  all_goals (refine E.OW.pure rfl rfl rfl (E.PV.pick_t rfl rfl rfl) ?_)
  all_goals (refine E.OW.pure rfl rfl rfl (E.PV.move rfl rfl) ?_)
  all_goals (refine E.OW.put 34 (.bool true) (v := .bool true) rfl rfl ?_)
  all_goals ((refine E.OW.call nm44 rfl rfl rfl rfl rfl rfl _ (fun w hw => six_ok w) ?_; rintro _ _ ⟨AX2, rfl, rfl⟩))
  all_goals ((refine E.OW.call nm43 rfl rfl rfl rfl rfl rfl _ (fun w hw => one_ok _ w) ?_; rintro _ _ ⟨mO4, rfl, rfl, hmO4⟩))
  all_goals (have hfO4 : mO4.q.fit := hmO4 ▸ Cf.fit_one (by unfold Cf.i64; omega))
  all_goals ((refine E.OW.call nm28 rfl rfl rfl rfl rfl rfl _ (fun w hw => CT_ok 3 2 _ _ Cf.six 0 mO4 w ?_ ?_ ?_ ?_) ?_; (focus (decide)); (focus (exact hw.rdrow (i := 1) rfl)); (focus (exact hw.rdtm (i := 0) rfl)); (focus (assumption)); rintro _ _ ⟨rfl, rfl⟩))
  all_goals (refine E.OW.put 37 (.int .i64 70) rfl (congrArg (Value.int .i64) (by rw [hmO4]; exact Cf.x_6)) ?_)
  all_goals (refine E.OW.pure rfl rfl rfl (E.PV.eql rfl rfl rfl) ?_)
  all_goals (refine E.OW.pure rfl rfl rfl (E.PV.pick_t rfl rfl rfl) ?_)
  all_goals (refine E.OW.pure rfl rfl rfl (E.PV.move rfl rfl) ?_)
  all_goals (refine E.OW.put 40 (.bool true) (v := .bool true) rfl rfl ?_)
  all_goals ((refine E.OW.call nm44 rfl rfl rfl rfl rfl rfl _ (fun w hw => six_ok w) ?_; rintro _ _ ⟨AX3, rfl, rfl⟩))
  all_goals ((refine E.OW.call nm43 rfl rfl rfl rfl rfl rfl _ (fun w hw => one_ok _ w) ?_; rintro _ _ ⟨mO5, rfl, rfl, hmO5⟩))
  all_goals (have hfO5 : mO5.q.fit := hmO5 ▸ Cf.fit_one (by unfold Cf.i64; omega))
  all_goals ((refine E.OW.call nm28 rfl rfl rfl rfl rfl rfl _ (fun w hw => CT_ok 3 2 _ _ Cf.six 0 mO5 w ?_ ?_ ?_ ?_) ?_; (focus (decide)); (focus (exact hw.rdrow (i := 1) rfl)); (focus (exact hw.rdtm (i := 0) rfl)); (focus (assumption)); rintro _ _ ⟨rfl, rfl⟩))
  all_goals (refine E.OW.put 43 (.int .i64 70) rfl (congrArg (Value.int .i64) (by rw [hmO5]; exact Cf.x_m)) ?_)
  all_goals (refine E.OW.pure rfl rfl rfl (E.PV.eql rfl rfl rfl) ?_)
  all_goals (refine E.OW.pure rfl rfl rfl (E.PV.pick_t rfl rfl rfl) ?_)
  all_goals (refine E.OW.pure rfl rfl rfl (E.PV.assign rfl rfl) ?_)
  all_goals (
    refine E.OW.nil ?_
    refine E.then_n ?_
    refine E.CW.seq ?_
    refine E.CW.sels [8, 8, 8, 8] rfl ?_
    refine E.CW.chunk 3 (E.HP.tm (⟨⟨mO0.q.h, mO0.q.p, mO0.q.d, 9, mO0.q.n2, mO0.q.n3, mO0.q.n4, mO0.q.n5⟩, mO0.A1, mO0.A2, mO0.A3, mO0.c1, mO0.c2, mO0.c3⟩ : E.Tm)) rfl rfl ?_
    refine E.CW.open 3 rfl ?_
    refine E.CW.nilrow 3 1 ?_
    refine E.CW.gather [1, 0, 1, 1, 1, 1] 3 rfl rfl ?_
    refine E.CW.chunk 0 (E.HP.tm (⟨⟨mO1.q.h, [], mO1.q.d, mO1.q.n1, mO1.q.n2, mO1.q.n3, mO1.q.n4, mO1.q.n5⟩, mO1.A1, none, mO1.A3, mO1.c1, 0, mO1.c3⟩ : E.Tm)) rfl rfl ?_
    refine E.CW.sels [2, 2, 0, 0] rfl ?_
    refine E.CW.drawx mixed [0, 0] rfl ?_
    all_goals (refine E.AW.first 1 rfl (by kernel_rfl) (by kernel_rfl) (by kernel_rfl) rfl rfl rfl (E.PV.loads (i := 1) is33 rfl rfl rfl rfl) ?_)
    all_goals (refine E.AW.one 0 (by kernel_rfl) rfl ?_)
    all_goals ((refine E.OW.call nm44 rfl rfl rfl rfl rfl rfl _ (fun w hw => six_ok w) ?_; rintro _ _ ⟨AX4, rfl, rfl⟩))
    all_goals (first | (refine E.AW.nil [0, 0] rfl ?_) | (refine E.AW.nil [1, 1] rfl ?_) | (refine E.AW.nil [2, 2] rfl ?_) | (refine E.AW.nil [3, 3] rfl ?_) | (refine E.AW.nil [4, 4] rfl ?_) | (refine E.AW.nil [5, 5] rfl ?_) | (refine E.AW.nil [6, 6] rfl ?_) | (refine E.AW.nil [0, 0] rfl ?_) | (refine E.AW.nil [0, 0] rfl ?_))
    all_goals (refine E.AW.one 2 (by kernel_rfl) rfl ?_)
    all_goals ((refine E.OW.call nm28 rfl rfl rfl rfl rfl rfl _ (fun w hw => CT_ok 3 2 _ _ Cf.six 0 (⟨⟨mO0.q.h, mO0.q.p, mO0.q.d, 9, mO0.q.n2, mO0.q.n3, mO0.q.n4, mO0.q.n5⟩, mO0.A1, mO0.A2, mO0.A3, mO0.c1, mO0.c2, mO0.c3⟩ : E.Tm) w ?_ ?_ ?_ ?_) ?_; (focus (decide)); (focus (exact hw.rdrow (i := 0) rfl)); (focus (exact hw.rdtm (i := 4) rfl)); (focus (assumption)); rintro _ _ ⟨rfl, rfl⟩))
    all_goals (first | (refine E.AW.nil [0, 0] rfl ?_) | (refine E.AW.nil [1, 1] rfl ?_) | (refine E.AW.nil [2, 2] rfl ?_) | (refine E.AW.nil [3, 3] rfl ?_) | (refine E.AW.nil [4, 4] rfl ?_) | (refine E.AW.nil [5, 5] rfl ?_) | (refine E.AW.nil [6, 6] rfl ?_) | (refine E.AW.nil [0, 0] rfl ?_) | (refine E.AW.nil [0, 0] rfl ?_))
    all_goals (refine E.AW.put 48 (.int .i64 70) rfl (congrArg (Value.int .i64) (by rw [hXq]; exact Cf.x_X)) ?_)
    all_goals (refine E.AW.first 3 rfl (by kernel_rfl) (by kernel_rfl) (by kernel_rfl) rfl rfl rfl (E.PV.eql rfl rfl rfl) ?_)
    all_goals (refine E.AW.first 4 rfl (by kernel_rfl) (by kernel_rfl) (by kernel_rfl) rfl rfl rfl (E.PV.move rfl rfl) ?_)
    all_goals (refine E.AW.put 50 (.bool true) (v := .bool true) rfl rfl ?_)
    all_goals (refine E.AW.first 6 rfl (by kernel_rfl) (by kernel_rfl) (by kernel_rfl) rfl rfl rfl (E.PV.loads (i := 0) is33 rfl rfl rfl rfl) ?_)
    all_goals (refine E.AW.one 5 (by kernel_rfl) rfl ?_)
    all_goals ((refine E.OW.call nm44 rfl rfl rfl rfl rfl rfl _ (fun w hw => six_ok w) ?_; rintro _ _ ⟨AX5, rfl, rfl⟩))
    all_goals (first | (refine E.AW.nil [0, 0] rfl ?_) | (refine E.AW.nil [1, 1] rfl ?_) | (refine E.AW.nil [2, 2] rfl ?_) | (refine E.AW.nil [3, 3] rfl ?_) | (refine E.AW.nil [4, 4] rfl ?_) | (refine E.AW.nil [5, 5] rfl ?_) | (refine E.AW.nil [6, 6] rfl ?_) | (refine E.AW.nil [0, 0] rfl ?_) | (refine E.AW.nil [0, 0] rfl ?_))
    all_goals (refine E.AW.one 7 (by kernel_rfl) rfl ?_)
    all_goals ((refine E.OW.call nm28 rfl rfl rfl rfl rfl rfl _ (fun w hw => CT_ok 3 2 _ _ Cf.six 0 (⟨⟨mO1.q.h, [], mO1.q.d, mO1.q.n1, mO1.q.n2, mO1.q.n3, mO1.q.n4, mO1.q.n5⟩, mO1.A1, none, mO1.A3, mO1.c1, 0, mO1.c3⟩ : E.Tm) w ?_ ?_ ?_ ?_) ?_; (focus (decide)); (focus (exact hw.rdrow (i := 0) rfl)); (focus (exact hw.rdtm (i := 4) rfl)); (focus (assumption)); rintro _ _ ⟨rfl, rfl⟩))
    all_goals (first | (refine E.AW.nil [0, 0] rfl ?_) | (refine E.AW.nil [1, 1] rfl ?_) | (refine E.AW.nil [2, 2] rfl ?_) | (refine E.AW.nil [3, 3] rfl ?_) | (refine E.AW.nil [4, 4] rfl ?_) | (refine E.AW.nil [5, 5] rfl ?_) | (refine E.AW.nil [6, 6] rfl ?_) | (refine E.AW.nil [0, 0] rfl ?_) | (refine E.AW.nil [0, 0] rfl ?_))
    all_goals (refine E.AW.put 53 (.int .i64 70) rfl (congrArg (Value.int .i64) (by rw [hYq]; exact Cf.x_Y)) ?_)
    all_goals (refine E.AW.first 8 rfl (by kernel_rfl) (by kernel_rfl) (by kernel_rfl) rfl rfl rfl (E.PV.eql rfl rfl rfl) ?_)
    all_goals (refine E.AW.first 9 rfl (by kernel_rfl) (by kernel_rfl) (by kernel_rfl) rfl rfl rfl (E.PV.pick_t rfl rfl rfl) ?_)
    all_goals (refine E.AW.first 10 rfl (by kernel_rfl) (by kernel_rfl) (by kernel_rfl) rfl rfl rfl (E.PV.move rfl rfl) ?_)
    all_goals (refine E.AW.put 56 (.bool true) (v := .bool true) rfl rfl ?_)
    all_goals (refine E.AW.one 11 (by kernel_rfl) rfl ?_)
    all_goals ((refine E.OW.call nm44 rfl rfl rfl rfl rfl rfl _ (fun w hw => six_ok w) ?_; rintro _ _ ⟨AX6, rfl, rfl⟩))
    all_goals (first | (refine E.AW.nil [0, 0] rfl ?_) | (refine E.AW.nil [1, 1] rfl ?_) | (refine E.AW.nil [2, 2] rfl ?_) | (refine E.AW.nil [3, 3] rfl ?_) | (refine E.AW.nil [4, 4] rfl ?_) | (refine E.AW.nil [5, 5] rfl ?_) | (refine E.AW.nil [6, 6] rfl ?_) | (refine E.AW.nil [0, 0] rfl ?_) | (refine E.AW.nil [0, 0] rfl ?_))
    all_goals (refine E.AW.one 12 (by kernel_rfl) rfl ?_)
    all_goals ((refine E.OW.call nm43 rfl rfl rfl rfl rfl rfl _ (fun w hw => one_ok _ w) ?_; rintro _ _ ⟨mO6, rfl, rfl, hmO6⟩))
    all_goals (first | (refine E.AW.nil [0, 0] rfl ?_) | (refine E.AW.nil [1, 1] rfl ?_) | (refine E.AW.nil [2, 2] rfl ?_) | (refine E.AW.nil [3, 3] rfl ?_) | (refine E.AW.nil [4, 4] rfl ?_) | (refine E.AW.nil [5, 5] rfl ?_) | (refine E.AW.nil [6, 6] rfl ?_) | (refine E.AW.nil [0, 0] rfl ?_) | (refine E.AW.nil [0, 0] rfl ?_))
    all_goals (have hfO6 : mO6.q.fit := hmO6 ▸ Cf.fit_one (by unfold Cf.i64; omega))
    all_goals (refine E.AW.one 13 (by kernel_rfl) rfl ?_)
    all_goals ((refine E.OW.call nm28 rfl rfl rfl rfl rfl rfl _ (fun w hw => CT_ok 3 2 _ _ Cf.six 1 mO6 w ?_ ?_ ?_ ?_) ?_; (focus (decide)); (focus (exact hw.rdrow (i := 1) rfl)); (focus (exact hw.rdtm (i := 0) rfl)); (focus (assumption)); rintro _ _ ⟨rfl, rfl⟩))
    all_goals (first | (refine E.AW.nil [0, 0] rfl ?_) | (refine E.AW.nil [1, 1] rfl ?_) | (refine E.AW.nil [2, 2] rfl ?_) | (refine E.AW.nil [3, 3] rfl ?_) | (refine E.AW.nil [4, 4] rfl ?_) | (refine E.AW.nil [5, 5] rfl ?_) | (refine E.AW.nil [6, 6] rfl ?_) | (refine E.AW.nil [0, 0] rfl ?_) | (refine E.AW.nil [0, 0] rfl ?_))
    all_goals (refine E.AW.put 59 (.int .i64 70) rfl (congrArg (Value.int .i64) (by rw [hmO6]; exact Cf.x_t1)) ?_)
    all_goals (refine E.AW.first 14 rfl (by kernel_rfl) (by kernel_rfl) (by kernel_rfl) rfl rfl rfl (E.PV.eql rfl rfl rfl) ?_)
    all_goals (refine E.AW.first 15 rfl (by kernel_rfl) (by kernel_rfl) (by kernel_rfl) rfl rfl rfl (E.PV.pick_t rfl rfl rfl) ?_)
    all_goals (refine E.AW.first 16 rfl (by kernel_rfl) (by kernel_rfl) (by kernel_rfl) rfl rfl rfl (E.PV.move rfl rfl) ?_)
    all_goals (refine E.AW.put 62 (.bool true) (v := .bool true) rfl rfl ?_)
    all_goals (refine E.AW.one 17 (by kernel_rfl) rfl ?_)
    all_goals ((refine E.OW.call nm44 rfl rfl rfl rfl rfl rfl _ (fun w hw => six_ok w) ?_; rintro _ _ ⟨AX7, rfl, rfl⟩))
    all_goals (first | (refine E.AW.nil [0, 0] rfl ?_) | (refine E.AW.nil [1, 1] rfl ?_) | (refine E.AW.nil [2, 2] rfl ?_) | (refine E.AW.nil [3, 3] rfl ?_) | (refine E.AW.nil [4, 4] rfl ?_) | (refine E.AW.nil [5, 5] rfl ?_) | (refine E.AW.nil [6, 6] rfl ?_) | (refine E.AW.nil [0, 0] rfl ?_) | (refine E.AW.nil [0, 0] rfl ?_))
    all_goals (refine E.AW.one 18 (by kernel_rfl) rfl ?_)
    all_goals ((refine E.OW.call nm43 rfl rfl rfl rfl rfl rfl _ (fun w hw => one_ok _ w) ?_; rintro _ _ ⟨mO7, rfl, rfl, hmO7⟩))
    all_goals (first | (refine E.AW.nil [0, 0] rfl ?_) | (refine E.AW.nil [1, 1] rfl ?_) | (refine E.AW.nil [2, 2] rfl ?_) | (refine E.AW.nil [3, 3] rfl ?_) | (refine E.AW.nil [4, 4] rfl ?_) | (refine E.AW.nil [5, 5] rfl ?_) | (refine E.AW.nil [6, 6] rfl ?_) | (refine E.AW.nil [0, 0] rfl ?_) | (refine E.AW.nil [0, 0] rfl ?_))
    all_goals (have hfO7 : mO7.q.fit := hmO7 ▸ Cf.fit_one (by unfold Cf.i64; omega))
    all_goals (refine E.AW.one 19 (by kernel_rfl) rfl ?_)
    all_goals ((refine E.OW.call nm28 rfl rfl rfl rfl rfl rfl _ (fun w hw => CT_ok 3 2 _ _ Cf.six 3 mO7 w ?_ ?_ ?_ ?_) ?_; (focus (decide)); (focus (exact hw.rdrow (i := 1) rfl)); (focus (exact hw.rdtm (i := 0) rfl)); (focus (assumption)); rintro _ _ ⟨rfl, rfl⟩))
    all_goals (first | (refine E.AW.nil [0, 0] rfl ?_) | (refine E.AW.nil [1, 1] rfl ?_) | (refine E.AW.nil [2, 2] rfl ?_) | (refine E.AW.nil [3, 3] rfl ?_) | (refine E.AW.nil [4, 4] rfl ?_) | (refine E.AW.nil [5, 5] rfl ?_) | (refine E.AW.nil [6, 6] rfl ?_) | (refine E.AW.nil [0, 0] rfl ?_) | (refine E.AW.nil [0, 0] rfl ?_))
    all_goals (refine E.AW.put 65 (.int .i64 2) rfl (congrArg (Value.int .i64) (by rw [hmO7]; exact Cf.x_t3)) ?_)
    all_goals (refine E.AW.first 20 rfl (by kernel_rfl) (by kernel_rfl) (by kernel_rfl) rfl rfl rfl (E.PV.eql rfl rfl rfl) ?_)
    all_goals (refine E.AW.first 21 rfl (by kernel_rfl) (by kernel_rfl) (by kernel_rfl) rfl rfl rfl (E.PV.pick_t rfl rfl rfl) ?_)
    all_goals (refine E.AW.first 22 rfl (by kernel_rfl) (by kernel_rfl) (by kernel_rfl) rfl rfl rfl (E.PV.move rfl rfl) ?_)
    all_goals (refine E.AW.put 68 (.bool true) (v := .bool true) rfl rfl ?_)
    all_goals (refine E.AW.first 23 rfl (by kernel_rfl) (by kernel_rfl) (by kernel_rfl) rfl rfl rfl (E.PV.build (ps := []) rfl rfl (fun w => bld24_ w)) ?_)
    all_goals (refine E.AW.first 24 rfl (by kernel_rfl) (by kernel_rfl) (by kernel_rfl) rfl rfl rfl (E.PV.loads (i := 1) is33 rfl rfl rfl rfl) ?_)
    all_goals (refine E.AW.one 25 (by kernel_rfl) rfl ?_)
    all_goals ((refine E.OW.call nm28 rfl rfl rfl rfl rfl rfl _ (fun w hw => CT_ok 0 0 none 0 [] 3 (⟨⟨mO0.q.h, mO0.q.p, mO0.q.d, 9, mO0.q.n2, mO0.q.n3, mO0.q.n4, mO0.q.n5⟩, mO0.A1, mO0.A2, mO0.A3, mO0.c1, mO0.c2, mO0.c3⟩ : E.Tm) w (by simp) E.Rd.nil ?_ ?_) ?_; (focus (exact hw.rdtm (i := 9) rfl)); (focus (assumption)); rintro _ _ ⟨rfl, rfl⟩))
    all_goals (first | (refine E.AW.nil [0, 0] rfl ?_) | (refine E.AW.nil [1, 1] rfl ?_) | (refine E.AW.nil [2, 2] rfl ?_) | (refine E.AW.nil [3, 3] rfl ?_) | (refine E.AW.nil [4, 4] rfl ?_) | (refine E.AW.nil [5, 5] rfl ?_) | (refine E.AW.nil [6, 6] rfl ?_) | (refine E.AW.nil [0, 0] rfl ?_) | (refine E.AW.nil [0, 0] rfl ?_))
    all_goals (refine E.AW.put 71 (.int .i64 50) rfl (congrArg (Value.int .i64) (by rw [hXq]; exact Cf.x_f)) ?_)
    all_goals (refine E.AW.first 26 rfl (by kernel_rfl) (by kernel_rfl) (by kernel_rfl) rfl rfl rfl (E.PV.eql rfl rfl rfl) ?_)
    all_goals (refine E.AW.first 27 rfl (by kernel_rfl) (by kernel_rfl) (by kernel_rfl) rfl rfl rfl (E.PV.pick_t rfl rfl rfl) ?_)
    all_goals (refine E.AW.first 28 rfl (by kernel_rfl) (by kernel_rfl) (by kernel_rfl) rfl rfl rfl (E.PV.assign rfl rfl) ?_)
    all_goals (refine E.AW.done (by kernel_rfl) ?_)
    all_goals (
      skip
      refine E.then_n ?_
      refine E.CW.seq ?_
      refine E.CW.seq ?_
      refine E.CW.region ?_
      refine E.OW.pure rfl rfl rfl (E.PV.move rfl rfl) ?_
      all_goals (refine E.OW.put 74 (.bool false) (v := .bool false) rfl rfl ?_)
      all_goals ((refine E.OW.call nm45 rfl rfl rfl rfl rfl rfl _ (fun w hw => alive_ok w) ?_; rintro _ _ ⟨rfl, rfl⟩))
      all_goals (refine E.OW.pure rfl rfl rfl (E.PV.not rfl rfl) ?_)
      all_goals (refine E.OW.pure rfl rfl rfl (E.PV.pick_f rfl rfl rfl) ?_)
      all_goals (refine E.OW.pure rfl rfl rfl (E.PV.move rfl rfl) ?_)
      all_goals (refine E.OW.put 78 (.bool false) (v := .bool false) rfl rfl ?_)
      all_goals (refine E.OW.pure rfl rfl rfl (E.PV.move rfl rfl) ?_)
      all_goals (refine E.OW.pure rfl rfl rfl (E.PV.not rfl rfl) ?_)
      all_goals (refine E.OW.pure rfl rfl rfl (E.PV.pick_f rfl rfl rfl) ?_)
      all_goals (refine E.OW.pure rfl rfl rfl (E.PV.move rfl rfl) ?_)
      all_goals (refine E.OW.put 82 (.bool false) (v := .bool false) rfl rfl ?_)
      all_goals (refine E.OW.pure rfl rfl rfl (E.PV.move rfl rfl) ?_)
      all_goals (refine E.OW.pure rfl rfl rfl (E.PV.not rfl rfl) ?_)
      all_goals (refine E.OW.pure rfl rfl rfl (E.PV.pick_f rfl rfl rfl) ?_)
      all_goals (refine E.OW.pure rfl rfl rfl (E.PV.move rfl rfl) ?_)
      all_goals (refine E.OW.put 86 (.bool false) (v := .bool false) rfl rfl ?_)
      all_goals ((refine E.OW.call nm44 rfl rfl rfl rfl rfl rfl _ (fun w hw => six_ok w) ?_; rintro _ _ ⟨AX8, rfl, rfl⟩))
      all_goals (refine E.OW.pure rfl rfl rfl (E.PV.build (ps := []) rfl rfl (fun w => bld33_ w)) ?_)
      all_goals ((refine E.OW.call nm28 rfl rfl rfl rfl rfl rfl _ (fun w hw => CT_ok 3 2 _ _ Cf.six 0 E.Tm.z w ?_ ?_ (E.Tm.z_rd _ _) Cf.T.z_fit) ?_; (focus (decide)); (focus (exact hw.rdrow (i := 0) rfl)); rintro _ _ ⟨rfl, rfl⟩))
      all_goals (refine E.OW.put 89 (.int .i64 0) rfl (congrArg (Value.int .i64) (Cf.x_z)) ?_)
      all_goals (refine E.OW.pure rfl rfl rfl (E.PV.neq rfl rfl rfl) ?_)
      all_goals (refine E.OW.pure rfl rfl rfl (E.PV.pick_f rfl rfl rfl) ?_)
      all_goals (refine E.OW.pure rfl rfl rfl (E.PV.move rfl rfl) ?_)
      all_goals (refine E.OW.put 92 (.bool false) (v := .bool false) rfl rfl ?_)
      all_goals ((refine E.OW.call nm44 rfl rfl rfl rfl rfl rfl _ (fun w hw => six_ok w) ?_; rintro _ _ ⟨AX9, rfl, rfl⟩))
      all_goals (refine E.OW.pure rfl rfl rfl (E.PV.build (ps := [(3, .const (.int .i64 1))]) rfl rfl (fun w => bld33_3 _ w)) ?_)
      all_goals ((refine E.OW.call nm28 rfl rfl rfl rfl rfl rfl _ (fun w hw => CT_ok 3 2 _ _ Cf.six 0 (⟨Cf.oneL, none, none, none, 0, 0, 0⟩ : E.Tm) w ?_ ?_ ⟨E.Rd.nil, E.Rd.nil, E.Rd.nil⟩ Cf.fit_L) ?_; (focus (decide)); (focus (exact hw.rdrow (i := 0) rfl)); rintro _ _ ⟨rfl, rfl⟩))
      all_goals (refine E.OW.put 95 (.int .i64 70) rfl (congrArg (Value.int .i64) (Cf.x_L)) ?_)
      all_goals (refine E.OW.pure rfl rfl rfl (E.PV.neq rfl rfl rfl) ?_)
      all_goals (refine E.OW.pure rfl rfl rfl (E.PV.pick_f rfl rfl rfl) ?_)
      all_goals (
        refine E.OW.nil ?_
        refine E.then_n ?_
        refine E.CW.cond rfl (fun hc => ?_) (fun hc => ?_)
        · (cases hc; done)
        · simp only [E.b0, E.b1, E.b2, E.b3, E.b4, E.b5, E.b6, E.b7, E.b8, E.b9, E.b10, E.b11, E.b12, E.b13, E.b14, E.b15, E.b16, E.b17, E.b18, E.b19, E.b20, reduceCtorEq] at hc
          all_goals (
            refine E.CW.skip ?_
            refine E.then_n ?_
            refine E.CW.seq ?_
            refine E.CW.region ?_
            (refine E.OW.call nm46 rfl rfl rfl rfl rfl rfl _ (fun w hw => Exa_ok w) ?_; rintro _ _ ⟨gE0, rfl, rfl, hgE0⟩)
            (refine E.OW.call nm46 rfl rfl rfl rfl rfl rfl _ (fun w hw => Exa_ok w) ?_; rintro _ _ ⟨gE1, rfl, rfl, hgE1⟩)
            (refine E.OW.call nm46 rfl rfl rfl rfl rfl rfl _ (fun w hw => Exa_ok w) ?_; rintro _ _ ⟨gE2, rfl, rfl, hgE2⟩)
            (refine E.OW.call nm46 rfl rfl rfl rfl rfl rfl _ (fun w hw => Exa_ok w) ?_; rintro _ _ ⟨gE3, rfl, rfl, hgE3⟩)
            refine E.OW.alloc (in28.zr) rfl rfl rfl rfl rfl (fun B3 => ?_)
            refine E.OW.alloc (in28.zr) rfl rfl rfl rfl rfl (fun B4 => ?_)
            refine E.OW.alloc (in28.zr) rfl rfl rfl rfl rfl (fun B5 => ?_)
            refine E.OW.alloc (in28.zr) rfl rfl rfl rfl rfl (fun B6 => ?_)
            refine E.OW.store (i := 3) in28.size rfl rfl rfl rfl rfl rfl rfl rfl rfl ?_
            refine E.OW.store (i := 3) in28.size rfl rfl rfl rfl rfl rfl rfl rfl rfl ?_
            refine E.OW.store (i := 3) in28.size rfl rfl rfl rfl rfl rfl rfl rfl rfl ?_
            refine E.OW.store (i := 3) in28.size rfl rfl rfl rfl rfl rfl rfl rfl rfl ?_
            refine E.OW.nil ?_
            refine E.then_n ?_
            refine E.CW.seq ?_
            refine E.CW.sels [0, 0, 0, 0, 0, 0, 0, 0] rfl ?_
            have hGC : (⟨gE0.a, gE0.b, (gE0.l.set 1 3), gE0.s, gE0.ts, gE0.st, gE0.A, gE0.c, gE0.A1, gE0.c1, gE0.A2, gE0.c2⟩ : E.Cfg).q = Cf.exC := by show (⟨gE0.q.a, gE0.q.b, gE0.q.l.set 1 3, gE0.q.s, gE0.q.ts, gE0.q.st⟩ : Cf.C) = _; rw [hgE0]; rfl
            have hGCf : (⟨gE0.a, gE0.b, (gE0.l.set 1 3), gE0.s, gE0.ts, gE0.st, gE0.A, gE0.c, gE0.A1, gE0.c1, gE0.A2, gE0.c2⟩ : E.Cfg).q.fit := by rw [hGC]; exact Cf.fit_C
            have hGD : (⟨gE1.a, gE1.b, gE1.l, (gE1.s.set 2 3), gE1.ts, gE1.st, gE1.A, gE1.c, gE1.A1, gE1.c1, gE1.A2, gE1.c2⟩ : E.Cfg).q = Cf.exD := by show (⟨gE1.q.a, gE1.q.b, gE1.q.l, gE1.q.s.set 2 3, gE1.q.ts, gE1.q.st⟩ : Cf.C) = _; rw [hgE1]; rfl
            have hGDf : (⟨gE1.a, gE1.b, gE1.l, (gE1.s.set 2 3), gE1.ts, gE1.st, gE1.A, gE1.c, gE1.A1, gE1.c1, gE1.A2, gE1.c2⟩ : E.Cfg).q.fit := by rw [hGD]; exact Cf.fit_D
            have hGF : (⟨gE2.a, gE2.b, gE2.l, gE2.s, (gE2.ts.set 1 E.Tm.z), gE2.st, gE2.A, gE2.c, gE2.A1, gE2.c1, gE2.A2, gE2.c2⟩ : E.Cfg).q = Cf.exF := by show (⟨gE2.q.a, gE2.q.b, gE2.q.l, gE2.q.s, (gE2.ts.set 1 E.Tm.z).map (·.q), gE2.q.st⟩ : Cf.C) = _; rw [show ((gE2.ts.set 1 E.Tm.z).map (·.q)) = gE2.q.ts.set 1 Cf.T.z from by rw [List.map_set]; rfl]; show (⟨gE2.q.a, gE2.q.b, gE2.q.l, gE2.q.s, gE2.q.ts.set 1 Cf.T.z, gE2.q.st⟩ : Cf.C) = _; rw [hgE2]; rfl
            have hGFf : (⟨gE2.a, gE2.b, gE2.l, gE2.s, (gE2.ts.set 1 E.Tm.z), gE2.st, gE2.A, gE2.c, gE2.A1, gE2.c1, gE2.A2, gE2.c2⟩ : E.Cfg).q.fit := by rw [hGF]; exact Cf.fit_F
            have hGG : (⟨gE3.a, gE3.b, gE3.l, gE3.s, gE3.ts, 4611686018427387905, gE3.A, gE3.c, gE3.A1, gE3.c1, gE3.A2, gE3.c2⟩ : E.Cfg).q = Cf.exG := by show (⟨gE3.q.a, gE3.q.b, gE3.q.l, gE3.q.s, gE3.q.ts, 4611686018427387905⟩ : Cf.C) = _; rw [hgE3]; rfl
            have hGGf : (⟨gE3.a, gE3.b, gE3.l, gE3.s, gE3.ts, 4611686018427387905, gE3.A, gE3.c, gE3.A1, gE3.c1, gE3.A2, gE3.c2⟩ : E.Cfg).q.fit := by rw [hGG]; exact Cf.fit_G
            have hl0 : gE0.l.length = 20 := congrArg (fun x : Cf.C => x.l.length) hgE0
            have hs1 : gE1.s.length = 6 := congrArg (fun x : Cf.C => x.s.length) hgE1
            have ht2 : gE2.ts.length = 2 := by have := congrArg (fun x : Cf.C => x.ts.length) hgE2; rwa [E.Cfg.ts_len] at this
            refine E.CW.open 7 rfl ?_
            refine E.CW.region ?_
            refine E.OW.pure rfl rfl rfl (E.PV.fieldAddr fa28_0 rfl rfl) ?_
            refine E.OW.pure rfl rfl rfl (E.PV.fieldAddr fa24_2 rfl rfl) ?_
            refine E.OW.pure rfl rfl rfl (E.PV.load (i := 7) na22 rfl rfl rfl rfl) ?_
            refine E.OW.pure rfl rfl rfl (E.PV.indexAddr1 (j := 1) (E.rdr (i := 0) rfl) Try.underlying22 in5 rfl rfl rfl rfl (by simp) (by omega)) ?_
            refine E.OW.store_u8 (i := 0) (b := 3) in5.size rfl rfl rfl rfl rfl rfl ?_ ?_; (focus (omega))
            refine E.OW.nil ?_
            refine E.then_n ?_
            refine E.CW.seq ?_
            refine E.CW.chunk 0 (E.HP.row 5 1 gE0.A (gE0.l.set 1 3).length gE0.c (E.u8s (gE0.l.set 1 3))) rfl (by rw [List.length_set]) ?_
            refine E.CW.gather [0, 0, 0, 0, 0, 0, 0, 0, 0, 0, 0] 4 rfl rfl ?_
            refine E.CW.chunk 0 (E.HP.cfg (⟨gE0.a, gE0.b, (gE0.l.set 1 3), gE0.s, gE0.ts, gE0.st, gE0.A, gE0.c, gE0.A1, gE0.c1, gE0.A2, gE0.c2⟩ : E.Cfg)) rfl rfl ?_
            refine E.CW.chunk 4 (E.HP.blk B3 28 (⟨gE0.a, gE0.b, (gE0.l.set 1 3), gE0.s, gE0.ts, gE0.st, gE0.A, gE0.c, gE0.A1, gE0.c1, gE0.A2, gE0.c2⟩ : E.Cfg).cells) rfl (by simp [E.Cfg.cells]) ?_
            refine E.CW.open 7 rfl ?_
            refine E.CW.region ?_
            refine E.OW.pure rfl rfl rfl (E.PV.fieldAddr fa28_1 rfl rfl) ?_
            refine E.OW.pure rfl rfl rfl (E.PV.load (i := 8) na22 rfl rfl rfl rfl) ?_
            refine E.OW.pure rfl rfl rfl (E.PV.indexAddr1 (j := 2) (E.rdr (i := 1) rfl) Try.underlying22 in5 rfl rfl rfl rfl (by simp) (by omega)) ?_
            refine E.OW.store_u8 (i := 1) (b := 3) in5.size rfl rfl rfl rfl rfl rfl ?_ ?_; (focus (omega))
            refine E.OW.nil ?_
            refine E.then_n ?_
            refine E.CW.seq ?_
            refine E.CW.chunk 0 (E.HP.row 5 1 gE1.A1 (gE1.s.set 2 3).length gE1.c1 (E.u8s (gE1.s.set 2 3))) rfl (by rw [List.length_set]) ?_
            refine E.CW.gather [1, 0, 0, 0, 0, 0, 0, 0, 0, 0, 0] 4 rfl rfl ?_
            refine E.CW.chunk 0 (E.HP.cfg (⟨gE1.a, gE1.b, gE1.l, (gE1.s.set 2 3), gE1.ts, gE1.st, gE1.A, gE1.c, gE1.A1, gE1.c1, gE1.A2, gE1.c2⟩ : E.Cfg)) rfl rfl ?_
            refine E.CW.chunk 5 (E.HP.blk B4 28 (⟨gE1.a, gE1.b, gE1.l, (gE1.s.set 2 3), gE1.ts, gE1.st, gE1.A, gE1.c, gE1.A1, gE1.c1, gE1.A2, gE1.c2⟩ : E.Cfg).cells) rfl (by simp [E.Cfg.cells]) ?_
            refine E.CW.open 7 rfl ?_
            refine E.CW.region ?_
            refine E.OW.pure rfl rfl rfl (E.PV.fieldAddr fa28_2 rfl rfl) ?_
            refine E.OW.pure rfl rfl rfl (E.PV.load (i := 9) na25 rfl rfl rfl rfl) ?_
            refine E.OW.pure rfl rfl rfl (E.PV.build (ps := []) rfl rfl (fun w => bld33_ w)) ?_
            refine E.OW.pure rfl rfl rfl (E.PV.indexAddr (j := 1) (E.rdr (i := 2) rfl) Try.underlying25 in33 rfl rfl rfl rfl (by simp) (by omega) (by decide)) ?_
            refine E.OW.store_tm (i := 2) (j := 1) (q := E.Tm.z) in33.size rfl rfl rfl rfl rfl rfl (by omega) rfl ?_
            refine E.OW.nil ?_
            refine E.then_n ?_
            refine E.CW.seq ?_
            refine E.CW.tmz ?_
            refine E.CW.tmsput (m := E.Tm.z) 0 3 1 rfl rfl (by omega) ?_
            refine E.CW.chunk 1 (E.HP.row 33 8 gE2.A2 (gE2.ts.set 1 E.Tm.z).length gE2.c2 (E.tms (gE2.ts.set 1 E.Tm.z))) rfl (by rw [List.length_set]) ?_
            refine E.CW.gather [2, 2, 0, 0, 0, 0, 0, 0, 0, 0, 0] 4 rfl rfl ?_
            refine E.CW.chunk 0 (E.HP.cfg (⟨gE2.a, gE2.b, gE2.l, gE2.s, (gE2.ts.set 1 E.Tm.z), gE2.st, gE2.A, gE2.c, gE2.A1, gE2.c1, gE2.A2, gE2.c2⟩ : E.Cfg)) rfl rfl ?_
            refine E.CW.chunk 6 (E.HP.blk B5 28 (⟨gE2.a, gE2.b, gE2.l, gE2.s, (gE2.ts.set 1 E.Tm.z), gE2.st, gE2.A, gE2.c, gE2.A1, gE2.c1, gE2.A2, gE2.c2⟩ : E.Cfg).cells) rfl (by simp [E.Cfg.cells]) ?_
            refine E.CW.region ?_
            refine E.OW.pure rfl rfl rfl (E.PV.fieldAddr fa28_3 rfl rfl) ?_
            refine E.OW.store (i := 6) in26.size rfl rfl rfl rfl rfl rfl rfl rfl rfl ?_
            refine E.OW.nil ?_
            refine E.then_n ?_
            refine E.CW.seq ?_
            refine E.CW.chunk 7 (E.HP.cfg (⟨gE3.a, gE3.b, gE3.l, gE3.s, gE3.ts, 4611686018427387905, gE3.A, gE3.c, gE3.A1, gE3.c1, gE3.A2, gE3.c2⟩ : E.Cfg)) rfl rfl ?_
            refine E.CW.region ?_
            (refine E.OW.call nm46 rfl rfl rfl rfl rfl rfl _ (fun w hw => Exa_ok w) ?_; rintro _ _ ⟨gE4, rfl, rfl, hgE4⟩)
            have hfE4 : gE4.q.fit := by rw [hgE4]; exact Cf.ex_fit
            (refine E.OW.call nm31 rfl rfl rfl rfl rfl rfl _ (fun w hw => Pn_ok gE4 2 w ?_ ?_) ?_; (focus (exact hw.rdcfg (i := 0) rfl)); (focus (assumption)); rintro _ _ ⟨rfl, rfl⟩)
            refine E.OW.pure rfl rfl rfl (E.PV.move rfl rfl) ?_
            refine E.OW.pure rfl rfl rfl (E.PV.extract rfl rfl rfl) ?_
            refine E.OW.pure rfl rfl rfl (E.PV.extract rfl rfl rfl) ?_
            refine E.OW.pure rfl rfl rfl (E.PV.assign rfl rfl) ?_
            refine E.OW.pure rfl rfl rfl (E.PV.assign rfl rfl) ?_
            refine E.OW.nil ?_
            refine E.then_n ?_
            refine E.CW.seq ?_
            refine E.CW.put 10 (.int .i64 2) rfl (congrArg (Value.int .i64) (by rw [hgE4]; exact Cf.p_2)) ?_
            refine E.CW.region ?_
            (refine E.OW.call nm46 rfl rfl rfl rfl rfl rfl _ (fun w hw => Exa_ok w) ?_; rintro _ _ ⟨gE5, rfl, rfl, hgE5⟩)
            have hfE5 : gE5.q.fit := by rw [hgE5]; exact Cf.ex_fit
            (refine E.OW.call nm37 rfl rfl rfl rfl rfl rfl _ (fun w hw => On_ok gE5 2 w ?_ ?_) ?_; (focus (exact hw.rdcfg (i := 0) rfl)); (focus (assumption)); rintro _ _ ⟨gQ, rfl, rfl, hgQ⟩)
            refine E.OW.pure rfl rfl rfl (E.PV.move rfl rfl) ?_
            refine E.OW.pure rfl rfl rfl (E.PV.extract rfl rfl rfl) ?_
            refine E.OW.pure rfl rfl rfl (E.PV.extract rfl rfl rfl) ?_
            refine E.OW.alloc (in28.zr) rfl rfl rfl rfl rfl (fun B7 => ?_)
            refine E.OW.store (i := 0) in28.size rfl rfl rfl rfl rfl rfl rfl rfl rfl ?_
            refine E.OW.pure rfl rfl rfl (E.PV.assign rfl rfl) ?_
            refine E.OW.nil ?_
            refine E.then_n ?_
            refine E.CW.seq ?_
            refine E.CW.seq ?_
            refine E.CW.put 12 (.int .i64 2) rfl (congrArg (Value.int .i64) (by rw [hgE5]; exact Cf.o_2)) ?_
            refine E.CW.sels [4, 4, 4, 4, 4, 4, 4, 4] rfl ?_
            refine E.CW.region ?_
            refine E.OW.pure rfl rfl rfl (E.PV.loads (i := 6) is28 rfl rfl rfl rfl) ?_
            (refine E.OW.call nm33 rfl rfl rfl rfl rfl rfl _ (fun w hw => Ck_ok (⟨gE0.a, gE0.b, (gE0.l.set 1 3), gE0.s, gE0.ts, gE0.st, gE0.A, gE0.c, gE0.A1, gE0.c1, gE0.A2, gE0.c2⟩ : E.Cfg) w ?_ ?_) ?_; (focus (exact hw.rdcfg (i := 7) rfl)); (focus (assumption)); rintro _ _ ⟨rfl, rfl⟩)
            refine E.OW.put 125 (.int .i64 70) rfl (congrArg (Value.int .i64) (by rw [hGC]; exact Cf.c_C)) ?_
            refine E.OW.pure rfl rfl rfl (E.PV.neq rfl rfl rfl) ?_
            refine E.OW.pure rfl rfl rfl (E.PV.move rfl rfl) ?_
            all_goals (refine E.OW.put 127 (.bool false) (v := .bool false) rfl rfl ?_)
            all_goals (refine E.OW.pure rfl rfl rfl (E.PV.loads (i := 4) is28 rfl rfl rfl rfl) ?_)
            all_goals ((refine E.OW.call nm33 rfl rfl rfl rfl rfl rfl _ (fun w hw => Ck_ok (⟨gE1.a, gE1.b, gE1.l, (gE1.s.set 2 3), gE1.ts, gE1.st, gE1.A, gE1.c, gE1.A1, gE1.c1, gE1.A2, gE1.c2⟩ : E.Cfg) w ?_ ?_) ?_; (focus (exact hw.rdcfg (i := 5) rfl)); (focus (assumption)); rintro _ _ ⟨rfl, rfl⟩))
            all_goals (refine E.OW.put 129 (.int .i64 70) rfl (congrArg (Value.int .i64) (by rw [hGD]; exact Cf.c_D)) ?_)
            all_goals (refine E.OW.pure rfl rfl rfl (E.PV.neq rfl rfl rfl) ?_)
            all_goals (refine E.OW.pure rfl rfl rfl (E.PV.pick_f rfl rfl rfl) ?_)
            all_goals (refine E.OW.pure rfl rfl rfl (E.PV.move rfl rfl) ?_)
            all_goals (refine E.OW.put 132 (.bool false) (v := .bool false) rfl rfl ?_)
            all_goals (refine E.OW.pure rfl rfl rfl (E.PV.loads (i := 2) is28 rfl rfl rfl rfl) ?_)
            all_goals ((refine E.OW.call nm33 rfl rfl rfl rfl rfl rfl _ (fun w hw => Ck_ok (⟨gE2.a, gE2.b, gE2.l, gE2.s, (gE2.ts.set 1 E.Tm.z), gE2.st, gE2.A, gE2.c, gE2.A1, gE2.c1, gE2.A2, gE2.c2⟩ : E.Cfg) w ?_ ?_) ?_; (focus (exact hw.rdcfg (i := 3) rfl)); (focus (assumption)); rintro _ _ ⟨rfl, rfl⟩))
            all_goals (refine E.OW.put 134 (.int .i64 70) rfl (congrArg (Value.int .i64) (by rw [hGF]; exact Cf.c_F)) ?_)
            all_goals (refine E.OW.pure rfl rfl rfl (E.PV.neq rfl rfl rfl) ?_)
            all_goals (refine E.OW.pure rfl rfl rfl (E.PV.pick_f rfl rfl rfl) ?_)
            all_goals (refine E.OW.pure rfl rfl rfl (E.PV.move rfl rfl) ?_)
            all_goals (refine E.OW.put 137 (.bool false) (v := .bool false) rfl rfl ?_)
            all_goals (refine E.OW.pure rfl rfl rfl (E.PV.loads (i := 1) is28 rfl rfl rfl rfl) ?_)
            all_goals ((refine E.OW.call nm33 rfl rfl rfl rfl rfl rfl _ (fun w hw => Ck_ok (⟨gE3.a, gE3.b, gE3.l, gE3.s, gE3.ts, 4611686018427387905, gE3.A, gE3.c, gE3.A1, gE3.c1, gE3.A2, gE3.c2⟩ : E.Cfg) w ?_ ?_) ?_; (focus (exact hw.rdcfg (i := 0) rfl)); (focus (assumption)); rintro _ _ ⟨rfl, rfl⟩))
            all_goals (refine E.OW.put 139 (.int .i64 2) rfl (congrArg (Value.int .i64) (by rw [hGG]; exact Cf.c_G)) ?_)
            all_goals (refine E.OW.pure rfl rfl rfl (E.PV.neq rfl rfl rfl) ?_)
            all_goals (refine E.OW.pure rfl rfl rfl (E.PV.pick_f rfl rfl rfl) ?_)
            all_goals (refine E.OW.pure rfl rfl rfl (E.PV.move rfl rfl) ?_)
            all_goals (refine E.OW.put 142 (.bool false) (v := .bool false) rfl rfl ?_)
            all_goals (refine E.OW.pure rfl rfl rfl (E.PV.move rfl rfl) ?_)
            all_goals (refine E.OW.pure rfl rfl rfl (E.PV.neq rfl rfl rfl) ?_)
            all_goals (refine E.OW.pure rfl rfl rfl (E.PV.pick_f rfl rfl rfl) ?_)
            all_goals (refine E.OW.pure rfl rfl rfl (E.PV.move rfl rfl) ?_)
            all_goals (refine E.OW.put 146 (.bool false) (v := .bool false) rfl rfl ?_)
            all_goals (refine E.OW.pure rfl rfl rfl (E.PV.move rfl rfl) ?_)
            all_goals (refine E.OW.pure rfl rfl rfl (E.PV.neq rfl rfl rfl) ?_)
            all_goals (refine E.OW.pure rfl rfl rfl (E.PV.pick_f rfl rfl rfl) ?_)
            all_goals (refine E.OW.pure rfl rfl rfl (E.PV.move rfl rfl) ?_)
            all_goals (refine E.OW.put 150 (.bool false) (v := .bool false) rfl rfl ?_)
            all_goals (refine E.OW.pure rfl rfl rfl (E.PV.build (ps := []) rfl rfl (fun w => bld28_ w)) ?_)
            all_goals ((refine E.OW.call nm33 rfl rfl rfl rfl rfl rfl _ (fun w hw => Ck_ok E.Cfg.z w ⟨E.Rd.nil, E.Rd.nil, E.Rd.nil, fun m h => by cases h⟩ Cf.zero_fit) ?_; rintro _ _ ⟨rfl, rfl⟩))
            all_goals (refine E.OW.put 152 (.int .i64 50) rfl (congrArg (Value.int .i64) (Cf.c_z)) ?_)
            all_goals (refine E.OW.pure rfl rfl rfl (E.PV.neq rfl rfl rfl) ?_)
            all_goals (refine E.OW.pure rfl rfl rfl (E.PV.pick_f rfl rfl rfl) ?_)
            all_goals (
              refine E.OW.nil ?_
              refine E.then_n ?_
              refine E.CW.cond rfl (fun hc => ?_) (fun hc => ?_)
              · (cases hc; done)
              · simp only [E.b0, E.b1, E.b2, E.b3, E.b4, E.b5, E.b6, E.b7, E.b8, E.b9, E.b10, E.b11, E.b12, E.b13, E.b14, E.b15, E.b16, E.b17, E.b18, E.b19, E.b20, reduceCtorEq] at hc
                all_goals (
                  refine E.CW.skip ?_
                  refine E.then_n ?_
                  refine E.CW.seq ?_
                  refine E.CW.region ?_
                  (refine E.OW.call nm46 rfl rfl rfl rfl rfl rfl _ (fun w hw => Exa_ok w) ?_; rintro _ _ ⟨gE6, rfl, rfl, hgE6⟩)
                  have hfE6 : gE6.q.fit := by rw [hgE6]; exact Cf.ex_fit
                  (refine E.OW.call nm37 rfl rfl rfl rfl rfl rfl _ (fun w hw => On_ok gE6 1 w ?_ ?_) ?_; (focus (exact hw.rdcfg (i := 0) rfl)); (focus (assumption)); rintro _ _ ⟨gP, rfl, rfl, hgP⟩)
                  refine E.OW.pure rfl rfl rfl (E.PV.move rfl rfl) ?_
                  refine E.OW.pure rfl rfl rfl (E.PV.extract rfl rfl rfl) ?_
                  refine E.OW.pure rfl rfl rfl (E.PV.extract rfl rfl rfl) ?_
                  refine E.OW.alloc (in28.zr) rfl rfl rfl rfl rfl (fun B8 => ?_)
                  refine E.OW.store (i := 0) in28.size rfl rfl rfl rfl rfl rfl rfl rfl rfl ?_
                  refine E.OW.pure rfl rfl rfl (E.PV.assign rfl rfl) ?_
                  refine E.OW.nil ?_
                  refine E.then_n ?_
                  refine E.CW.seq ?_
                  refine E.CW.seq ?_
                  refine E.CW.put 14 (.int .i64 0) rfl (congrArg (Value.int .i64) (by rw [hgE6]; exact Cf.o_1)) ?_
                  have hPl : gP.l = (Cf.onlyR Cf.ex 1).1.l := (congrArg Cf.C.l hgP).trans (by rw [hgE6])
                  have hPs : gP.s = [0, 0, 0, 2, 2, 0] := (congrArg Cf.C.s hgP).trans (by rw [hgE6]; exact Cf.o_s)
                  have hPn : gP.l.length = 20 := by rw [hPl]; exact Cf.o_len
                  have hP5 : gP.l.take 5 = [0, 0, 255, 0, 0] := by rw [hPl]; exact Cf.o_t5
                  have hPm : (gP.l.drop 10).take 5 = [2, 2, 255, 2, 2] := by rw [hPl]; exact Cf.o_m5
                  refine E.CW.open 1 rfl ?_
                  refine E.CW.cap 0 rfl (fun hcP => ?_)
                  refine E.CW.region ?_
                  refine E.OW.pure rfl rfl rfl (E.PV.move rfl rfl) ?_
                  refine E.OW.pure rfl rfl rfl (E.PV.neq rfl rfl rfl) ?_
                  refine E.OW.pure rfl rfl rfl (E.PV.move rfl rfl) ?_
                  all_goals (refine E.OW.put 162 (.bool false) (v := .bool false) rfl rfl ?_)
                  all_goals (refine E.OW.pure rfl rfl rfl (E.PV.fieldAddr fa28_0 rfl rfl) ?_)
                  all_goals (refine E.OW.pure rfl rfl rfl (E.PV.fieldAddr fa24_2 rfl rfl) ?_)
                  all_goals (refine E.OW.pure rfl rfl rfl (E.PV.load (i := 4) na22 rfl rfl rfl rfl) ?_)
                  all_goals (refine E.OW.pure rfl rfl rfl (E.PV.len Try.underlying22 rfl rfl) ?_)
                  all_goals (refine E.OW.pure rfl rfl rfl (E.PV.neq rfl rfl rfl) ?_)
                  all_goals (refine E.OW.pure rfl rfl rfl (E.PV.pick_f rfl rfl rfl) ?_)
                  all_goals (refine E.OW.pure rfl rfl rfl (E.PV.move rfl rfl) ?_)
                  all_goals (refine E.OW.put 169 (.bool false) rfl (congrArg Value.bool ?_) ?_; (focus ((simp only [E.b0, E.b1, E.b2, E.b3, E.b4, E.b5, E.b6, E.b7, E.b8, E.b9, E.b10, E.b11, E.b12, E.b13, E.b14, E.b15, E.b16, E.b17, E.b18, E.b19, E.b20]; omega))))
                  all_goals (refine E.OW.pure rfl rfl rfl (E.PV.fieldAddr fa28_0 rfl rfl) ?_)
                  all_goals (refine E.OW.pure rfl rfl rfl (E.PV.fieldAddr fa24_2 rfl rfl) ?_)
                  all_goals (refine E.OW.pure rfl rfl rfl (E.PV.load (i := 4) na22 rfl rfl rfl rfl) ?_)
                  all_goals (refine E.OW.pure rfl rfl rfl (E.PV.sub0 (hi := 5) Try.underlying22 in5 rfl rfl rfl (by omega)) ?_)
                  all_goals (refine E.OW.pure rfl rfl rfl (E.PV.b2s (bs := gP.l.take 5) Try.underlying22 Try.underlying5 Try.underlying9 (fun w hw => E.rd_take (hw.rdrow (i := 0) rfl)) (by rw [List.length_take]; omega) rfl rfl) ?_)
                  all_goals (refine E.OW.pure rfl rfl rfl (E.PV.sne (b := gP.l.take 5) (c := [0, 0, 255, 0, 0]) rfl rfl rfl) ?_)
                  all_goals (refine E.OW.put 175 (.bool false) rfl (congrArg Value.bool (by rw [hP5]; rfl)) ?_)
                  all_goals (refine E.OW.pure rfl rfl rfl (E.PV.pick_f rfl rfl rfl) ?_)
                  all_goals (refine E.OW.pure rfl rfl rfl (E.PV.move rfl rfl) ?_)
                  all_goals (refine E.OW.put 177 (.bool false) (v := .bool false) rfl rfl ?_)
                  all_goals (refine E.OW.pure rfl rfl rfl (E.PV.fieldAddr fa28_0 rfl rfl) ?_)
                  all_goals (refine E.OW.pure rfl rfl rfl (E.PV.fieldAddr fa24_2 rfl rfl) ?_)
                  all_goals (refine E.OW.pure rfl rfl rfl (E.PV.load (i := 4) na22 rfl rfl rfl rfl) ?_)
                  all_goals (refine E.OW.pure rfl rfl rfl (E.PV.subs (lo := 10) (hi := 15) Try.underlying22 in5 rfl rfl rfl rfl (by omega) (by omega)) ?_)
                  all_goals (refine E.OW.pure rfl rfl rfl (E.PV.b2s (bs := (gP.l.drop 10).take 5) Try.underlying22 Try.underlying5 Try.underlying9 (fun w hw => E.rd_sub (hw.rdrow (i := 0) rfl) (by omega) hcP) (by rw [List.length_take, List.length_drop]; omega) rfl rfl) ?_)
                  all_goals (refine E.OW.pure rfl rfl rfl (E.PV.sne (b := (gP.l.drop 10).take 5) (c := [2, 2, 255, 2, 2]) rfl rfl rfl) ?_)
                  all_goals (refine E.OW.put 183 (.bool false) rfl (congrArg Value.bool (by rw [hPm]; rfl)) ?_)
                  all_goals (refine E.OW.pure rfl rfl rfl (E.PV.pick_f rfl rfl rfl) ?_)
                  all_goals (refine E.OW.pure rfl rfl rfl (E.PV.move rfl rfl) ?_)
                  all_goals (refine E.OW.put 185 (.bool false) (v := .bool false) rfl rfl ?_)
                  all_goals (refine E.OW.pure rfl rfl rfl (E.PV.fieldAddr fa28_1 rfl rfl) ?_)
                  all_goals (refine E.OW.pure rfl rfl rfl (E.PV.load (i := 4) na22 rfl rfl rfl rfl) ?_)
                  all_goals (refine E.OW.pure rfl rfl rfl (E.PV.b2s (bs := gP.s) Try.underlying22 Try.underlying5 Try.underlying9 (E.rdr (i := 1) rfl) (by rfl) rfl rfl) ?_)
                  all_goals (refine E.OW.pure rfl rfl rfl (E.PV.sne (b := gP.s) (c := [0, 0, 0, 2, 2, 0]) rfl rfl rfl) ?_)
                  all_goals (refine E.OW.put 189 (.bool false) rfl (congrArg Value.bool (by rw [hPs]; rfl)) ?_)
                  all_goals (refine E.OW.pure rfl rfl rfl (E.PV.pick_f rfl rfl rfl) ?_)
                  all_goals (
                    refine E.OW.nil ?_
                    refine E.then_n ?_
                    refine E.CW.cond rfl (fun hc => ?_) (fun hc => ?_)
                    · (cases hc; done)
                    · simp only [E.b0, E.b1, E.b2, E.b3, E.b4, E.b5, E.b6, E.b7, E.b8, E.b9, E.b10, E.b11, E.b12, E.b13, E.b14, E.b15, E.b16, E.b17, E.b18, E.b19, E.b20, reduceCtorEq] at hc
                      all_goals (
                        refine E.CW.skip ?_
                        refine E.then_n ?_
                        refine E.CW.seq ?_
                        refine E.CW.region ?_
                        (refine E.OW.call nm46 rfl rfl rfl rfl rfl rfl _ (fun w hw => Exa_ok w) ?_; rintro _ _ ⟨gE7, rfl, rfl, hgE7⟩)
                        have hfE7 : gE7.q.fit := by rw [hgE7]; exact Cf.ex_fit
                        (refine E.OW.call nm39 rfl rfl rfl rfl rfl rfl _ (fun w hw => En_ok gE7 w ?_ ?_) ?_; (focus (exact hw.rdcfg (i := 0) rfl)); (focus (assumption)); rintro _ _ ⟨AEn, cEn, rfl, rfl⟩)
                        refine E.OW.pure rfl rfl rfl (E.PV.move rfl rfl) ?_
                        refine E.OW.pure rfl rfl rfl (E.PV.extract rfl rfl rfl) ?_
                        refine E.OW.pure rfl rfl rfl (E.PV.extract rfl rfl rfl) ?_
                        refine E.OW.pure rfl rfl rfl (E.PV.assign rfl rfl) ?_
                        refine E.OW.pure rfl rfl rfl (E.PV.assign rfl rfl) ?_
                        refine E.OW.nil ?_
                        refine E.then_n ?_
                        refine E.CW.seq ?_
                        refine E.CW.seq ?_
                        have hel : (Cf.encR Cf.ex).1.length = 60 := Cf.ex_enc_len
                        refine E.CW.put 14 (.int .i64 0) rfl (congrArg (Value.int .i64) (by rw [hgE7]; exact Cf.ex_enc)) ?_
                        refine E.CW.put 15 (.slice AEn (Cf.encR Cf.ex).1.length cEn) rfl (by rw [hgE7]; rfl) ?_
                        refine E.CW.chunk 0 (E.HP.row 5 1 AEn (Cf.encR Cf.ex).1.length cEn (E.u8s (Cf.encR Cf.ex).1)) rfl (by rw [hgE7]) ?_
                        refine E.CW.cap 0 rfl (fun hcEn => ?_)
                        refine E.CW.region ?_
                        refine E.OW.pure rfl rfl rfl (E.PV.move rfl rfl) ?_
                        refine E.OW.pure rfl rfl rfl (E.PV.neq rfl rfl rfl) ?_
                        refine E.OW.pure rfl rfl rfl (E.PV.move rfl rfl) ?_
                        all_goals (refine E.OW.put 198 (.bool false) (v := .bool false) rfl rfl ?_)
                        all_goals (refine E.OW.pure rfl rfl rfl (E.PV.move rfl rfl) ?_)
                        all_goals (refine E.OW.pure rfl rfl rfl (E.PV.len Try.underlying22 rfl rfl) ?_)
                        all_goals (refine E.OW.pure rfl rfl rfl (E.PV.neq rfl rfl rfl) ?_)
                        all_goals (refine E.OW.pure rfl rfl rfl (E.PV.pick_f rfl rfl rfl) ?_)
                        all_goals (
                          refine E.OW.nil ?_
                          refine E.then_n ?_
                          refine E.CW.cond rfl (fun hc => ?_) (fun hc => ?_)
                          · (cases hc; done)
                          · simp only [E.b0, E.b1, E.b2, E.b3, E.b4, E.b5, E.b6, E.b7, E.b8, E.b9, E.b10, E.b11, E.b12, E.b13, E.b14, E.b15, E.b16, E.b17, E.b18, E.b19, E.b20, reduceCtorEq] at hc
                            all_goals (
                              refine E.CW.skip ?_
                              refine E.then_n ?_
                              refine E.CW.seq ?_
                              refine E.CW.region ?_
                              refine E.OW.pure rfl rfl rfl (E.PV.move rfl rfl) ?_
                              refine E.OW.pure rfl rfl rfl (E.PV.sub0 (hi := 59) Try.underlying22 in5 rfl rfl rfl (by omega)) ?_
                              refine E.OW.put 205 (.slice AEn ((Cf.encR Cf.ex).1.take 59).length cEn) rfl (by rw [List.length_take, Nat.min_eq_left (by omega)]) ?_
                              (refine E.OW.call nm41 rfl rfl rfl rfl rfl rfl _ (fun w hw => De_ok _ _ ((Cf.encR Cf.ex).1.take 59) w (by rw [List.length_take]; omega) (by rw [List.length_take]; omega) (by first | exact E.rd_take (hw.rdrow (i := 0) rfl) | exact E.rd_take (hw.rdrow (i := 1) rfl) | exact E.rd_take (hw.rdrow (i := 2) rfl) | exact E.rd_take (hw.rdrow (i := 3) rfl) | exact E.rd_take (hw.rdrow (i := 4) rfl) | exact E.rd_take (hw.rdrow (i := 5) rfl) | exact E.rd_take (hw.rdrow (i := 6) rfl) | exact E.rd_take (hw.rdrow (i := 7) rfl) | exact E.rd_take (hw.rdrow (i := 8) rfl) | exact E.rd_take (hw.rdrow (i := 9) rfl) | exact E.rd_take (hw.rdrow (i := 10) rfl) | exact E.rd_take (hw.rdrow (i := 11) rfl))) ?_; rintro _ _ ⟨gD0, rfl, rfl, hgD0, hfD0⟩)
                              refine E.OW.pure rfl rfl rfl (E.PV.move rfl rfl) ?_
                              refine E.OW.pure rfl rfl rfl (E.PV.extract rfl rfl rfl) ?_
                              refine E.OW.pure rfl rfl rfl (E.PV.extract rfl rfl rfl) ?_
                              refine E.OW.pure rfl rfl rfl (E.PV.assign rfl rfl) ?_
                              refine E.OW.nil ?_
                              refine E.then_n ?_
                              refine E.CW.seq ?_
                              refine E.CW.put 10 (.int .i64 10) rfl (congrArg (Value.int .i64) (Cf.d_59)) ?_
                              refine E.CW.region ?_
                              refine E.OW.buildSlice (Et := 5) (sz := 1) (cs := E.u8s []) (ps := []) rfl rfl rfl rfl rfl rfl (by unfold maxLen; omega) (fun w => bsl22_0_ w) (fun AL => ?_)
                              refine E.OW.pure rfl rfl rfl (E.PV.move rfl rfl) ?_
                              refine E.OW.append0 (i := 0) Try.underlying22 in5 rfl rfl (by decide) rfl rfl rfl rfl rfl rfl rfl (E.rdr (i := 2) rfl) ?_ ?_ ?_ ?_ (fun A10 c10 => ?_); (focus ((first | rfl | (simp; done) | omega))); (focus ((first | exact E.ints_one | exact E.u8s_one | (simp [Value.oneCell']; done)))); (focus ((unfold maxLen; omega))); (focus ((first | omega | (simp only [List.length_append, List.length_cons, List.length_nil] at *; omega) | (unfold maxLen at *; omega))))
                              refine E.OW.buildSlice (Et := 5) (sz := 1) (cs := E.u8s ([0])) (ps := [(0, .const (.int .u8 0))]) rfl rfl rfl rfl rfl rfl (by unfold maxLen; omega) (fun w => bsl22_1_0 _ w) (fun A11 => ?_); refine E.OW.chunk 0 (E.HP.row 5 1 A11 (List.length ([0])) 1 (E.u8s ([0]))) rfl rfl ?_; refine E.OW.put 213 (.slice A11 (List.length ([0])) 1) rfl rfl ?_
                              refine E.OW.app_u8 (i := 1) Try.underlying22 in5 rfl rfl rfl rfl rfl rfl rfl rfl rfl (E.rdr (i := 0) rfl) ?_ (fun A12 c12 => ?_); (focus ((first | omega | (simp only [List.length_append, List.length_cons, List.length_nil] at *; omega) | (unfold maxLen at *; omega))))
                              (refine E.OW.call nm41 rfl rfl rfl rfl rfl rfl _ (fun w hw => De_ok _ _ ((Cf.encR Cf.ex).1 ++ [0]) w ?_ ?_ ?_) ?_; (focus (exact hw.rowcap (i := 0) rfl)); (focus (simp only [List.length_append, List.length_cons, List.length_nil] at *; omega)); (focus (exact hw.rdrow (i := 0) rfl)); rintro _ _ ⟨gD1, rfl, rfl, hgD1, hfD1⟩)
                              refine E.OW.pure rfl rfl rfl (E.PV.move rfl rfl) ?_
                              refine E.OW.pure rfl rfl rfl (E.PV.extract rfl rfl rfl) ?_
                              refine E.OW.pure rfl rfl rfl (E.PV.extract rfl rfl rfl) ?_
                              refine E.OW.pure rfl rfl rfl (E.PV.assign rfl rfl) ?_
                              refine E.OW.nil ?_
                              refine E.then_n ?_
                              refine E.CW.seq ?_
                              refine E.CW.put 12 (.int .i64 11) rfl (congrArg (Value.int .i64) (Cf.d_61)) ?_
                              refine E.CW.region ?_
                              (refine E.OW.call nm41 rfl rfl rfl rfl rfl rfl _ (fun w hw => De_ok none 0 [] w (by simp) (by simp) E.Rd.nil) ?_; rintro _ _ ⟨gD2, rfl, rfl, hgD2, hfD2⟩)
                              refine E.OW.pure rfl rfl rfl (E.PV.move rfl rfl) ?_
                              refine E.OW.pure rfl rfl rfl (E.PV.extract rfl rfl rfl) ?_
                              refine E.OW.pure rfl rfl rfl (E.PV.extract rfl rfl rfl) ?_
                              refine E.OW.alloc (in28.zr) rfl rfl rfl rfl rfl (fun B13 => ?_)
                              refine E.OW.store (i := 0) in28.size rfl rfl rfl rfl rfl rfl rfl rfl rfl ?_
                              refine E.OW.pure rfl rfl rfl (E.PV.assign rfl rfl) ?_
                              refine E.OW.nil ?_
                              refine E.then_n ?_
                              refine E.CW.seq ?_
                              refine E.CW.put 17 (.int .i64 10) rfl (congrArg (Value.int .i64) (Cf.d_0)) ?_
                              refine E.CW.region ?_
                              refine E.OW.make_u8s 257 Try.underlying22 in5 rfl rfl rfl rfl rfl rfl rfl ?_ ?_ (fun AM => ?_); (focus (unfold maxLen; omega)); (focus (omega))
                              refine E.OW.put 223 (.slice AM (List.replicate 257 (0 : UInt8)).length 257) rfl (by rw [List.length_replicate]) ?_
                              (refine E.OW.call nm41 rfl rfl rfl rfl rfl rfl _ (fun w hw => De_ok _ _ (List.replicate 257 0) w (by simp) (by simp) ?_) ?_; (focus (exact hw.rdrow (i := 0) rfl)); rintro _ _ ⟨gD3, rfl, rfl, hgD3, hfD3⟩)
                              refine E.OW.pure rfl rfl rfl (E.PV.move rfl rfl) ?_
                              refine E.OW.pure rfl rfl rfl (E.PV.extract rfl rfl rfl) ?_
                              refine E.OW.pure rfl rfl rfl (E.PV.extract rfl rfl rfl) ?_
                              refine E.OW.alloc (in28.zr) rfl rfl rfl rfl rfl (fun B15 => ?_)
                              refine E.OW.store (i := 0) in28.size rfl rfl rfl rfl rfl rfl rfl rfl rfl ?_
                              refine E.OW.pure rfl rfl rfl (E.PV.assign rfl rfl) ?_
                              refine E.OW.nil ?_
                              refine E.then_n ?_
                              refine E.CW.seq ?_
                              refine E.CW.put 19 (.int .i64 4) rfl (congrArg (Value.int .i64) (Cf.d_257)) ?_
                              refine E.CW.region ?_
                              refine E.OW.pure rfl rfl rfl (E.PV.move rfl rfl) ?_
                              refine E.OW.pure rfl rfl rfl (E.PV.eql rfl rfl rfl) ?_
                              refine E.OW.pure rfl rfl rfl (E.PV.move rfl rfl) ?_
                              all_goals (refine E.OW.put 229 (.bool true) (v := .bool true) rfl rfl ?_)
                              all_goals (refine E.OW.pure rfl rfl rfl (E.PV.move rfl rfl) ?_)
                              all_goals (refine E.OW.pure rfl rfl rfl (E.PV.eql rfl rfl rfl) ?_)
                              all_goals (refine E.OW.pure rfl rfl rfl (E.PV.pick_t rfl rfl rfl) ?_)
                              all_goals (refine E.OW.pure rfl rfl rfl (E.PV.move rfl rfl) ?_)
                              all_goals (refine E.OW.put 233 (.bool true) (v := .bool true) rfl rfl ?_)
                              all_goals (refine E.OW.pure rfl rfl rfl (E.PV.move rfl rfl) ?_)
                              all_goals (refine E.OW.pure rfl rfl rfl (E.PV.eql rfl rfl rfl) ?_)
                              all_goals (refine E.OW.pure rfl rfl rfl (E.PV.pick_t rfl rfl rfl) ?_)
                              all_goals (refine E.OW.pure rfl rfl rfl (E.PV.move rfl rfl) ?_)
                              all_goals (refine E.OW.put 237 (.bool true) (v := .bool true) rfl rfl ?_)
                              all_goals (refine E.OW.pure rfl rfl rfl (E.PV.move rfl rfl) ?_)
                              all_goals (refine E.OW.pure rfl rfl rfl (E.PV.eql rfl rfl rfl) ?_)
                              all_goals (refine E.OW.pure rfl rfl rfl (E.PV.pick_t rfl rfl rfl) ?_)
                              all_goals (refine E.OW.pure rfl rfl rfl (E.PV.assign rfl rfl) ?_)
                              all_goals (
                                refine E.OW.nil ?_
                                refine E.then_n ?_
                                refine E.CW.ret ?_
                                refine E.KR.one [] Try.results9 rfl rfl ?_
                                exact ⟨rfl, rfl⟩)))))))))))
end Go.Proofs.Ytbdfljgnlendjaa
