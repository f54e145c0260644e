/- Walks (printed by gen.py). -/
import Derived.Test.YtbdfljgnlendjaaG11
namespace Go.Proofs.Ytbdfljgnlendjaa
open Go Go.RowKit
set_option linter.unusedSimpArgs false
set_option linter.unusedVariables false

set_option maxRecDepth 100000 in
theorem alive_ok  (w0 : World) :
    Calls Try.prog 45 #[] w0 (E.Post w0 (E.Old w0) fun v Hn => v = .bool true ∧ Hn = []) := by
  refine E.calls_of (vs := []) (H := []) Try.func45 Try.ntmps45 rfl rfl (E.HA.start w0) ?_
  refine E.CW.seq ?_
  refine E.CW.region ?_
  refine E.OW.pure rfl rfl rfl (E.PV.assign rfl rfl) ?_
  refine E.OW.nil ?_
  refine E.then_n ?_
  refine E.CW.seq ?_
  refine E.CW.region ?_
  (refine E.OW.call nm46 rfl rfl rfl rfl rfl rfl _ (fun w hw => Exa_ok w) ?_; rintro _ _ ⟨gX, rfl, rfl, hgX⟩)
  refine E.OW.alloc (in28.zr) rfl rfl rfl rfl rfl (fun B1 => ?_)
  refine E.OW.store (i := 0) in28.size rfl rfl rfl rfl rfl rfl rfl rfl rfl ?_
  refine E.OW.nil ?_
  refine E.then_n ?_
  refine E.CW.seq ?_
  refine E.CW.seq ?_
  have hfX : gX.q.fit := hgX ▸ Cf.ex_fit
  refine E.CW.region ?_
  (refine E.OW.call nm44 rfl rfl rfl rfl rfl rfl _ (fun w hw => six_ok w) ?_; rintro _ _ ⟨AX1, rfl, rfl⟩)
  (refine E.OW.call nm43 rfl rfl rfl rfl rfl rfl _ (fun w hw => one_ok _ w) ?_; rintro _ _ ⟨mO1, rfl, rfl, hmO1⟩)
  have hfO1 : mO1.q.fit := hmO1 ▸ Cf.fit_one (by unfold Cf.i64; omega)
  (refine E.OW.call nm28 rfl rfl rfl rfl rfl rfl _ (fun w hw => CT_ok 3 2 _ _ Cf.six 0 mO1 w ?_ ?_ ?_ ?_) ?_; (focus (decide)); (focus (exact hw.rdrow (i := 1) rfl)); (focus (exact hw.rdtm (i := 0) rfl)); (focus (assumption)); rintro _ _ ⟨rfl, rfl⟩)
  refine E.OW.put 14 (.int .i64 0) rfl (by rw [hmO1, Cf.one3]) ?_
  refine E.OW.pure rfl rfl rfl (E.PV.neq rfl rfl rfl) ?_
  refine E.OW.pure rfl rfl rfl (E.PV.move rfl rfl) ?_
  all_goals (refine E.OW.put 16 (.bool false) (v := .bool false) rfl rfl ?_)
  all_goals ((refine E.OW.call nm44 rfl rfl rfl rfl rfl rfl _ (fun w hw => six_ok w) ?_; rintro _ _ ⟨AX2, rfl, rfl⟩))
  all_goals ((refine E.OW.call nm43 rfl rfl rfl rfl rfl rfl _ (fun w hw => one_ok _ w) ?_; rintro _ _ ⟨mO2, rfl, rfl, hmO2⟩))
  all_goals (have hfO2 : mO2.q.fit := hmO2 ▸ Cf.fit_one (by unfold Cf.i64; omega))
  all_goals ((refine E.OW.call nm28 rfl rfl rfl rfl rfl rfl _ (fun w hw => CT_ok 3 2 _ _ Cf.six 0 mO2 w ?_ ?_ ?_ ?_) ?_; (focus (decide)); (focus (exact hw.rdrow (i := 1) rfl)); (focus (exact hw.rdtm (i := 0) rfl)); (focus (assumption)); rintro _ _ ⟨rfl, rfl⟩))
  all_goals (refine E.OW.put 19 (.int .i64 70) rfl (by rw [hmO2, Cf.one2]) ?_)
  all_goals (refine E.OW.pure rfl rfl rfl (E.PV.neq rfl rfl rfl) ?_)
  all_goals (refine E.OW.pure rfl rfl rfl (E.PV.pick_f rfl rfl rfl) ?_)
  all_goals (refine E.OW.pure rfl rfl rfl (E.PV.move rfl rfl) ?_)
  all_goals (refine E.OW.put 22 (.bool false) (v := .bool false) rfl rfl ?_)
  all_goals ((refine E.OW.call nm43 rfl rfl rfl rfl rfl rfl _ (fun w hw => one_ok _ w) ?_; rintro _ _ ⟨mO3, rfl, rfl, hmO3⟩))
  all_goals (have hfO3 : mO3.q.fit := hmO3 ▸ Cf.fit_one (by unfold Cf.i64; omega))
  all_goals (have hsp : Cf.spots mO3.q = [0, 2, 3] := by rw [hmO3]; exact Cf.one_spots)
  all_goals (have hspl : (Cf.spots mO3.q).length = 3 := by rw [hsp]; rfl)
  all_goals ((refine E.OW.call nm23 rfl rfl rfl rfl rfl rfl _ (fun w hw => Sp_ok mO3 w ?_ ?_ ?_) ?_; (focus (exact hw.rdtm (i := 0) rfl)); (focus (assumption)); (focus (omega)); rintro _ _ ⟨ASp, cSp, rfl, rfl⟩))
  all_goals (refine E.OW.buildSlice (Et := 3) (sz := 1) (cs := E.ints ([0, 2, 3])) (ps := [(0, .const (.int .i64 0)), (1, .const (.int .i64 2)), (2, .const (.int .i64 3))]) rfl rfl rfl rfl rfl rfl (by unfold maxLen; omega) (fun w => bsl31_3_0_1_2 _ _ _ w) (fun A2 => ?_); refine E.OW.chunk 0 (E.HP.row 3 1 A2 (List.length ([0, 2, 3])) 3 (E.ints ([0, 2, 3]))) rfl rfl ?_; refine E.OW.put 25 (.slice A2 (List.length ([0, 2, 3])) 3) rfl rfl ?_)
  all_goals ((refine E.OW.call nm26 rfl rfl rfl rfl rfl rfl _ (fun w hw => rSameInts_ok _ _ (Cf.spots mO3.q) _ _ [0, 2, 3] w ?_ ?_ ?_) ?_; (focus (omega)); (focus (exact hw.rdrow (i := 1) rfl)); (focus (exact hw.rdrow (i := 0) rfl)); rintro _ _ ⟨rfl, rfl⟩))
  all_goals (refine E.OW.put 26 (.bool true) rfl (congrArg Value.bool (decide_eq_true hsp)) ?_)
  all_goals (refine E.OW.pure rfl rfl rfl (E.PV.not rfl rfl) ?_)
  all_goals (refine E.OW.pure rfl rfl rfl (E.PV.pick_f rfl rfl rfl) ?_)
  all_goals (refine E.OW.pure rfl rfl rfl (E.PV.move rfl rfl) ?_)
  all_goals (refine E.OW.put 29 (.bool false) (v := .bool false) rfl rfl ?_)
  all_goals (refine E.OW.pure rfl rfl rfl (E.PV.build (ps := []) rfl rfl (fun w => bld33_ w)) ?_)
  all_goals ((refine E.OW.call nm24 rfl rfl rfl rfl rfl rfl _ (fun w hw => Ab_ok E.Tm.z w ⟨E.Rd.nil, E.Rd.nil, E.Rd.nil⟩ Cf.T.z_fit) ?_; rintro _ _ ⟨rfl, rfl⟩))
  all_goals (refine E.OW.put 31 (.bool true) rfl (congrArg Value.bool Cf.z_absent) ?_)
  all_goals (refine E.OW.pure rfl rfl rfl (E.PV.not rfl rfl) ?_)
  all_goals (refine E.OW.pure rfl rfl rfl (E.PV.pick_f rfl rfl rfl) ?_)
  all_goals (refine E.OW.pure rfl rfl rfl (E.PV.move rfl rfl) ?_)
  all_goals (refine E.OW.put 34 (.bool false) (v := .bool false) rfl rfl ?_)
  all_goals ((refine E.OW.call nm43 rfl rfl rfl rfl rfl rfl _ (fun w hw => one_ok _ w) ?_; rintro _ _ ⟨mO4, rfl, rfl, hmO4⟩))
  all_goals (have hfO4 : mO4.q.fit := hmO4 ▸ Cf.fit_one (by unfold Cf.i64; omega))
  all_goals ((refine E.OW.call nm24 rfl rfl rfl rfl rfl rfl _ (fun w hw => Ab_ok mO4 w ?_ ?_) ?_; (focus (exact hw.rdtm (i := 0) rfl)); (focus (assumption)); rintro _ _ ⟨rfl, rfl⟩))
  all_goals (refine E.OW.put 36 (.bool false) rfl (by rw [hmO4, Cf.one_absent]) ?_)
  all_goals (refine E.OW.pure rfl rfl rfl (E.PV.pick_f rfl rfl rfl) ?_)
  all_goals (
    refine E.OW.nil ?_
    refine E.then_n ?_
    refine E.CW.cond rfl (fun hc => ?_) (fun hc => ?_)
    · (cases hc; done)
    · simp only [E.b0, E.b1, E.b2, E.b3, E.b4, E.b5, E.b6, E.b7, E.b8, E.b9, E.b10, E.b11, E.b12, E.b13, E.b14, E.b15, E.b16, E.b17, E.b18, E.b19, E.b20, reduceCtorEq] at hc
      all_goals (
        refine E.CW.skip ?_
        refine E.then_n ?_
        refine E.CW.seq ?_
        refine E.CW.sels [8, 8] rfl ?_
        have hten : Cf.tenantsR gX.q = ([0, 1], 0) := by rw [hgX]; exact Cf.ex_ten
        have htl1 : (Cf.tenantsR gX.q).1.length = 2 := by rw [hten]; rfl
        have hpr : Cf.presence gX.q 1 = (true, 0) := by rw [hgX]; exact Cf.ex_pres
        have ho2 : (Cf.onlyR gX.q 1).2 = 0 := by rw [hgX]; exact Cf.ex_only
        have hck : Cf.check gX.q = 0 := by rw [hgX]; exact Cf.ex_check
        refine E.CW.region ?_
        refine E.OW.pure rfl rfl rfl (E.PV.loads (i := 0) is28 rfl rfl rfl rfl) ?_
        (refine E.OW.call nm35 rfl rfl rfl rfl rfl rfl _ (fun w hw => Tt_ok gX w ?_ ?_) ?_; (focus (exact hw.rdcfg (i := 1) rfl)); (focus (assumption)); rintro _ _ ⟨AY, cY, rfl, rfl⟩)
        refine E.OW.pure rfl rfl rfl (E.PV.move rfl rfl) ?_
        refine E.OW.pure rfl rfl rfl (E.PV.extract rfl rfl rfl) ?_
        refine E.OW.pure rfl rfl rfl (E.PV.extract rfl rfl rfl) ?_
        refine E.OW.pure rfl rfl rfl (E.PV.assign rfl rfl) ?_
        refine E.OW.pure rfl rfl rfl (E.PV.assign rfl rfl) ?_
        refine E.OW.nil ?_
        refine E.then_n ?_
        refine E.CW.seq ?_
        refine E.CW.put 3 (.int .i64 0) rfl (congrArg (fun x : List Int × Int => Value.int .i64 x.2) hten) ?_
        refine E.CW.region ?_
        refine E.OW.pure rfl rfl rfl (E.PV.loads (i := 1) is28 rfl rfl rfl rfl) ?_
        (refine E.OW.call nm31 rfl rfl rfl rfl rfl rfl _ (fun w hw => Pn_ok _ _ w ?_ ?_) ?_; (focus (exact hw.rdcfg (i := 2) rfl)); (focus (assumption)); rintro _ _ ⟨rfl, rfl⟩)
        refine E.OW.pure rfl rfl rfl (E.PV.move rfl rfl) ?_
        refine E.OW.pure rfl rfl rfl (E.PV.extract rfl rfl rfl) ?_
        refine E.OW.pure rfl rfl rfl (E.PV.extract rfl rfl rfl) ?_
        refine E.OW.pure rfl rfl rfl (E.PV.assign rfl rfl) ?_
        refine E.OW.pure rfl rfl rfl (E.PV.assign rfl rfl) ?_
        refine E.OW.nil ?_
        refine E.then_n ?_
        refine E.CW.seq ?_
        refine E.CW.put 4 (.bool true) rfl (congrArg (fun x : Bool × Int => Value.bool x.1) hpr) ?_
        refine E.CW.put 5 (.int .i64 0) rfl (congrArg (fun x : Bool × Int => Value.int .i64 x.2) hpr) ?_
        refine E.CW.region ?_
        refine E.OW.pure rfl rfl rfl (E.PV.loads (i := 1) is28 rfl rfl rfl rfl) ?_
        (refine E.OW.call nm37 rfl rfl rfl rfl rfl rfl _ (fun w hw => On_ok _ _ w ?_ ?_) ?_; (focus (exact hw.rdcfg (i := 2) rfl)); (focus (assumption)); rintro _ _ ⟨gO, rfl, rfl, hgO⟩)
        refine E.OW.pure rfl rfl rfl (E.PV.move rfl rfl) ?_
        refine E.OW.pure rfl rfl rfl (E.PV.extract rfl rfl rfl) ?_
        refine E.OW.pure rfl rfl rfl (E.PV.extract rfl rfl rfl) ?_
        refine E.OW.alloc (in28.zr) rfl rfl rfl rfl rfl (fun B3 => ?_)
        refine E.OW.store (i := 0) in28.size rfl rfl rfl rfl rfl rfl rfl rfl rfl ?_
        refine E.OW.pure rfl rfl rfl (E.PV.assign rfl rfl) ?_
        refine E.OW.nil ?_
        refine E.then_n ?_
        refine E.CW.seq ?_
        refine E.CW.seq ?_
        refine E.CW.put 7 (.int .i64 0) rfl (congrArg (Value.int .i64) ho2) ?_
        have hfO : gO.q.fit := by rw [hgO]; exact Cf.onlyR_fit hfX
        have hten2 : Cf.tenantsR gO.q = ([1], 0) := by rw [hgO, hgX]; exact Cf.ex_ten2
        have htl2 : (Cf.tenantsR gO.q).1.length = 1 := by rw [hten2]; rfl
        refine E.CW.region ?_
        refine E.OW.pure rfl rfl rfl (E.PV.loads (i := 3) is28 rfl rfl rfl rfl) ?_
        (refine E.OW.call nm33 rfl rfl rfl rfl rfl rfl _ (fun w hw => Ck_ok _ w ?_ ?_) ?_; (focus (exact hw.rdcfg (i := 4) rfl)); (focus (assumption)); rintro _ _ ⟨rfl, rfl⟩)
        refine E.OW.put 54 (.int .i64 0) rfl (congrArg (Value.int .i64) hck) ?_
        refine E.OW.pure rfl rfl rfl (E.PV.neq rfl rfl rfl) ?_
        refine E.OW.pure rfl rfl rfl (E.PV.move rfl rfl) ?_
        all_goals (refine E.OW.put 56 (.bool false) (v := .bool false) rfl rfl ?_)
        all_goals (refine E.OW.pure rfl rfl rfl (E.PV.move rfl rfl) ?_)
        all_goals (refine E.OW.pure rfl rfl rfl (E.PV.neq rfl rfl rfl) ?_)
        all_goals (refine E.OW.pure rfl rfl rfl (E.PV.pick_f rfl rfl rfl) ?_)
        all_goals (refine E.OW.pure rfl rfl rfl (E.PV.move rfl rfl) ?_)
        all_goals (refine E.OW.put 60 (.bool false) (v := .bool false) rfl rfl ?_)
        all_goals (refine E.OW.pure rfl rfl rfl (E.PV.move rfl rfl) ?_)
        all_goals (refine E.OW.buildSlice (Et := 3) (sz := 1) (cs := E.ints ([0, 1])) (ps := [(0, .const (.int .i64 0)), (1, .const (.int .i64 1))]) rfl rfl rfl rfl rfl rfl (by unfold maxLen; omega) (fun w => bsl31_2_0_1 _ _ w) (fun A4 => ?_); refine E.OW.chunk 0 (E.HP.row 3 1 A4 (List.length ([0, 1])) 2 (E.ints ([0, 1]))) rfl rfl ?_; refine E.OW.put 62 (.slice A4 (List.length ([0, 1])) 2) rfl rfl ?_)
        all_goals ((refine E.OW.call nm26 rfl rfl rfl rfl rfl rfl _ (fun w hw => rSameInts_ok _ _ ((Cf.tenantsR gX.q).1) _ _ [0, 1] w ?_ ?_ ?_) ?_; (focus (omega)); (focus (exact hw.rdrow (i := 3) rfl)); (focus (exact hw.rdrow (i := 0) rfl)); rintro _ _ ⟨rfl, rfl⟩))
        all_goals (refine E.OW.put 63 (.bool true) rfl (congrArg Value.bool (decide_eq_true (by rw [hten]))) ?_)
        all_goals (refine E.OW.pure rfl rfl rfl (E.PV.not rfl rfl) ?_)
        all_goals (refine E.OW.pure rfl rfl rfl (E.PV.pick_f rfl rfl rfl) ?_)
        all_goals (refine E.OW.pure rfl rfl rfl (E.PV.move rfl rfl) ?_)
        all_goals (refine E.OW.put 66 (.bool false) (v := .bool false) rfl rfl ?_)
        all_goals (refine E.OW.pure rfl rfl rfl (E.PV.move rfl rfl) ?_)
        all_goals (refine E.OW.pure rfl rfl rfl (E.PV.neq rfl rfl rfl) ?_)
        all_goals (refine E.OW.pure rfl rfl rfl (E.PV.pick_f rfl rfl rfl) ?_)
        all_goals (refine E.OW.pure rfl rfl rfl (E.PV.move rfl rfl) ?_)
        all_goals (refine E.OW.put 70 (.bool false) (v := .bool false) rfl rfl ?_)
        all_goals (refine E.OW.pure rfl rfl rfl (E.PV.move rfl rfl) ?_)
        all_goals (refine E.OW.pure rfl rfl rfl (E.PV.not rfl rfl) ?_)
        all_goals (refine E.OW.pure rfl rfl rfl (E.PV.pick_f rfl rfl rfl) ?_)
        all_goals (refine E.OW.pure rfl rfl rfl (E.PV.move rfl rfl) ?_)
        all_goals (refine E.OW.put 74 (.bool false) (v := .bool false) rfl rfl ?_)
        all_goals (refine E.OW.pure rfl rfl rfl (E.PV.move rfl rfl) ?_)
        all_goals (refine E.OW.pure rfl rfl rfl (E.PV.neq rfl rfl rfl) ?_)
        all_goals (refine E.OW.pure rfl rfl rfl (E.PV.pick_f rfl rfl rfl) ?_)
        all_goals (refine E.OW.pure rfl rfl rfl (E.PV.move rfl rfl) ?_)
        all_goals (refine E.OW.put 78 (.bool false) (v := .bool false) rfl rfl ?_)
        all_goals (refine E.OW.pure rfl rfl rfl (E.PV.loads (i := 4) is28 rfl rfl rfl rfl) ?_)
        all_goals (refine E.OW.pure rfl rfl rfl (E.PV.loads (i := 4) is28 rfl rfl rfl rfl) ?_)
        all_goals ((refine E.OW.call nm19 rfl rfl rfl rfl rfl rfl _ (fun w hw => Same_ok _ _ w ?_ ?_ ?_ ?_) ?_; (focus (exact hw.rdcfg (i := 5) rfl)); (focus (exact hw.rdcfg (i := 5) rfl)); (focus (assumption)); (focus (assumption)); rintro _ _ ⟨rfl, rfl⟩))
        all_goals (refine E.OW.put 81 (.bool true) rfl (congrArg Value.bool (decide_eq_true rfl)) ?_)
        all_goals (refine E.OW.pure rfl rfl rfl (E.PV.not rfl rfl) ?_)
        all_goals (refine E.OW.pure rfl rfl rfl (E.PV.pick_f rfl rfl rfl) ?_)
        all_goals (refine E.OW.pure rfl rfl rfl (E.PV.move rfl rfl) ?_)
        all_goals (refine E.OW.put 84 (.bool false) (v := .bool false) rfl rfl ?_)
        all_goals (refine E.OW.pure rfl rfl rfl (E.PV.loads (i := 4) is28 rfl rfl rfl rfl) ?_)
        all_goals (refine E.OW.pure rfl rfl rfl (E.PV.loads (i := 1) is28 rfl rfl rfl rfl) ?_)
        all_goals ((refine E.OW.call nm19 rfl rfl rfl rfl rfl rfl _ (fun w hw => Same_ok _ _ w ?_ ?_ ?_ ?_) ?_; (focus (exact hw.rdcfg (i := 5) rfl)); (focus (exact hw.rdcfg (i := 2) rfl)); (focus (assumption)); (focus (assumption)); rintro _ _ ⟨rfl, rfl⟩))
        all_goals (refine E.OW.put 87 (.bool false) rfl (by rw [hgO, hgX]; exact congrArg Value.bool Cf.ex_only_ne) ?_)
        all_goals (refine E.OW.pure rfl rfl rfl (E.PV.pick_f rfl rfl rfl) ?_)
        all_goals (
          refine E.OW.nil ?_
          refine E.then_n ?_
          refine E.CW.cond rfl (fun hc => ?_) (fun hc => ?_)
          · (cases hc; done)
          · simp only [E.b0, E.b1, E.b2, E.b3, E.b4, E.b5, E.b6, E.b7, E.b8, E.b9, E.b10, E.b11, E.b12, E.b13, E.b14, E.b15, E.b16, E.b17, E.b18, E.b19, E.b20, reduceCtorEq] at hc
            all_goals (
              refine E.CW.skip ?_
              refine E.then_n ?_
              refine E.CW.seq ?_
              refine E.CW.sels [1, 1, 2, 2] rfl ?_
              refine E.CW.region ?_
              refine E.OW.pure rfl rfl rfl (E.PV.loads (i := 0) is28 rfl rfl rfl rfl) ?_
              (refine E.OW.call nm35 rfl rfl rfl rfl rfl rfl _ (fun w hw => Tt_ok gO w ?_ ?_) ?_; (focus (exact hw.rdcfg (i := 1) rfl)); (focus (assumption)); rintro _ _ ⟨AY2, cY2, rfl, rfl⟩)
              refine E.OW.pure rfl rfl rfl (E.PV.move rfl rfl) ?_
              refine E.OW.pure rfl rfl rfl (E.PV.extract rfl rfl rfl) ?_
              refine E.OW.pure rfl rfl rfl (E.PV.extract rfl rfl rfl) ?_
              refine E.OW.pure rfl rfl rfl (E.PV.assign rfl rfl) ?_
              refine E.OW.pure rfl rfl rfl (E.PV.assign rfl rfl) ?_
              refine E.OW.nil ?_
              refine E.then_n ?_
              refine E.CW.seq ?_
              refine E.CW.put 3 (.int .i64 0) rfl (congrArg (fun x : List Int × Int => Value.int .i64 x.2) hten2) ?_
              have hen2 : (Cf.encR gX.q).2 = 0 := by rw [hgX]; exact Cf.ex_enc
              have henl : (Cf.encR gX.q).1.length = 60 := by rw [hgX]; exact Cf.ex_enc_len
              have hdec : Cf.dec (Cf.encR gX.q).1 = (Cf.ex, 0) := by rw [hgX]; exact Cf.ex_dec
              have htl : ((Cf.encR gX.q).1.drop 22).take 30 = Cf.tail := by rw [hgX]; exact Cf.ex_tail
              refine E.CW.region ?_
              refine E.OW.pure rfl rfl rfl (E.PV.loads (i := 3) is28 rfl rfl rfl rfl) ?_
              (refine E.OW.call nm39 rfl rfl rfl rfl rfl rfl _ (fun w hw => En_ok _ w ?_ ?_) ?_; (focus (exact hw.rdcfg (i := 4) rfl)); (focus (assumption)); rintro _ _ ⟨AEn, cEn, rfl, rfl⟩)
              refine E.OW.pure rfl rfl rfl (E.PV.move rfl rfl) ?_
              refine E.OW.pure rfl rfl rfl (E.PV.extract rfl rfl rfl) ?_
              refine E.OW.pure rfl rfl rfl (E.PV.extract rfl rfl rfl) ?_
              refine E.OW.pure rfl rfl rfl (E.PV.assign rfl rfl) ?_
              refine E.OW.pure rfl rfl rfl (E.PV.assign rfl rfl) ?_
              refine E.OW.nil ?_
              refine E.then_n ?_
              refine E.CW.seq ?_
              refine E.CW.put 5 (.int .i64 0) rfl (congrArg (Value.int .i64) hen2) ?_
              refine E.CW.region ?_
              refine E.OW.pure rfl rfl rfl (E.PV.move rfl rfl) ?_
              (refine E.OW.call nm41 rfl rfl rfl rfl rfl rfl _ (fun w hw => De_ok _ _ (Cf.encR gX.q).1 w ?_ ?_ ?_) ?_; (focus (exact hw.rowcap (i := 0) rfl)); (focus (omega)); (focus (exact hw.rdrow (i := 0) rfl)); rintro _ _ ⟨gD, rfl, rfl, hgD, hfD⟩)
              refine E.OW.pure rfl rfl rfl (E.PV.move rfl rfl) ?_
              refine E.OW.pure rfl rfl rfl (E.PV.extract rfl rfl rfl) ?_
              refine E.OW.pure rfl rfl rfl (E.PV.extract rfl rfl rfl) ?_
              refine E.OW.alloc (in28.zr) rfl rfl rfl rfl rfl (fun B5 => ?_)
              refine E.OW.store (i := 0) in28.size rfl rfl rfl rfl rfl rfl rfl rfl rfl ?_
              refine E.OW.pure rfl rfl rfl (E.PV.assign rfl rfl) ?_
              refine E.OW.nil ?_
              refine E.then_n ?_
              refine E.CW.seq ?_
              refine E.CW.cap 2 rfl (fun hcEn => ?_)
              refine E.CW.put 7 (.int .i64 0) rfl (congrArg (fun x : Cf.C × Int => Value.int .i64 x.2) hdec) ?_
              refine E.CW.drawx mixed [0, 1, 4] rfl ?_
              all_goals (refine E.AW.first 0 rfl (by kernel_rfl) (by kernel_rfl) (by kernel_rfl) rfl rfl rfl (E.PV.move rfl rfl) ?_)
              all_goals (refine E.AW.first 1 rfl (by kernel_rfl) (by kernel_rfl) (by kernel_rfl) rfl rfl rfl (E.PV.eql rfl rfl rfl) ?_)
              all_goals (refine E.AW.first 2 rfl (by kernel_rfl) (by kernel_rfl) (by kernel_rfl) rfl rfl rfl (E.PV.move rfl rfl) ?_)
              all_goals (refine E.AW.put 106 (.bool true) (v := .bool true) rfl rfl ?_)
              all_goals (refine E.AW.first 3 rfl (by kernel_rfl) (by kernel_rfl) (by kernel_rfl) rfl rfl rfl (E.PV.move rfl rfl) ?_)
              all_goals (refine E.AW.one 4 (by kernel_rfl) rfl ?_)
              all_goals (refine E.OW.buildSlice (Et := 3) (sz := 1) (cs := E.ints ([1])) (ps := [(0, .const (.int .i64 1))]) rfl rfl rfl rfl rfl rfl (by unfold maxLen; omega) (fun w => bsl31_1_0 _ w) (fun A6 => ?_); refine E.OW.chunk 0 (E.HP.row 3 1 A6 (List.length ([1])) 1 (E.ints ([1]))) rfl rfl ?_; refine E.OW.put 108 (.slice A6 (List.length ([1])) 1) rfl rfl ?_)
              all_goals (first | (refine E.AW.nil [0, 1, 4] rfl ?_) | (refine E.AW.nil [1, 2, 5] rfl ?_) | (refine E.AW.nil [2, 3, 6] rfl ?_) | (refine E.AW.nil [3, 4, 7] rfl ?_) | (refine E.AW.nil [4, 5, 8] rfl ?_) | (refine E.AW.nil [5, 6, 9] rfl ?_) | (refine E.AW.nil [6, 7, 10] rfl ?_) | (refine E.AW.nil [0, 0, 3] rfl ?_) | (refine E.AW.nil [0, 0, 2] rfl ?_))
              all_goals (refine E.AW.one 5 (by kernel_rfl) rfl ?_)
              all_goals ((refine E.OW.call nm26 rfl rfl rfl rfl rfl rfl _ (fun w hw => rSameInts_ok _ _ ((Cf.tenantsR gO.q).1) _ _ [1] w ?_ ?_ ?_) ?_; (focus (omega)); (focus (exact hw.rdrow (i := 4) rfl)); (focus (exact hw.rdrow (i := 0) rfl)); rintro _ _ ⟨rfl, rfl⟩))
              all_goals (first | (refine E.AW.nil [0, 1, 4] rfl ?_) | (refine E.AW.nil [1, 2, 5] rfl ?_) | (refine E.AW.nil [2, 3, 6] rfl ?_) | (refine E.AW.nil [3, 4, 7] rfl ?_) | (refine E.AW.nil [4, 5, 8] rfl ?_) | (refine E.AW.nil [5, 6, 9] rfl ?_) | (refine E.AW.nil [6, 7, 10] rfl ?_) | (refine E.AW.nil [0, 0, 3] rfl ?_) | (refine E.AW.nil [0, 0, 2] rfl ?_))
              all_goals (refine E.AW.put 109 (.bool true) rfl (congrArg Value.bool (decide_eq_true (by rw [hten2]))) ?_)
              all_goals (refine E.AW.first 6 rfl (by kernel_rfl) (by kernel_rfl) (by kernel_rfl) rfl rfl rfl (E.PV.pick_t rfl rfl rfl) ?_)
              all_goals (refine E.AW.first 7 rfl (by kernel_rfl) (by kernel_rfl) (by kernel_rfl) rfl rfl rfl (E.PV.move rfl rfl) ?_)
              all_goals (refine E.AW.put 111 (.bool true) (v := .bool true) rfl rfl ?_)
              all_goals (refine E.AW.first 8 rfl (by kernel_rfl) (by kernel_rfl) (by kernel_rfl) rfl rfl rfl (E.PV.move rfl rfl) ?_)
              all_goals (refine E.AW.first 9 rfl (by kernel_rfl) (by kernel_rfl) (by kernel_rfl) rfl rfl rfl (E.PV.eql rfl rfl rfl) ?_)
              all_goals (refine E.AW.first 10 rfl (by kernel_rfl) (by kernel_rfl) (by kernel_rfl) rfl rfl rfl (E.PV.pick_t rfl rfl rfl) ?_)
              all_goals (refine E.AW.first 11 rfl (by kernel_rfl) (by kernel_rfl) (by kernel_rfl) rfl rfl rfl (E.PV.move rfl rfl) ?_)
              all_goals (refine E.AW.put 115 (.bool true) (v := .bool true) rfl rfl ?_)
              all_goals (refine E.AW.first 12 rfl (by kernel_rfl) (by kernel_rfl) (by kernel_rfl) rfl rfl rfl (E.PV.move rfl rfl) ?_)
              all_goals (refine E.AW.first 13 rfl (by kernel_rfl) (by kernel_rfl) (by kernel_rfl) rfl rfl rfl (E.PV.len Try.underlying22 rfl rfl) ?_)
              all_goals (refine E.AW.first 14 rfl (by kernel_rfl) (by kernel_rfl) (by kernel_rfl) rfl rfl rfl (E.PV.eql rfl rfl rfl) ?_)
              all_goals (refine E.AW.put 118 (.bool true) rfl (congrArg Value.bool (decide_eq_true (by omega))) ?_)
              all_goals (refine E.AW.first 15 rfl (by kernel_rfl) (by kernel_rfl) (by kernel_rfl) rfl rfl rfl (E.PV.pick_t rfl rfl rfl) ?_)
              all_goals (refine E.AW.first 16 rfl (by kernel_rfl) (by kernel_rfl) (by kernel_rfl) rfl rfl rfl (E.PV.move rfl rfl) ?_)
              all_goals (refine E.AW.put 120 (.bool true) (v := .bool true) rfl rfl ?_)
              all_goals (refine E.AW.first 17 rfl (by kernel_rfl) (by kernel_rfl) (by kernel_rfl) rfl rfl rfl (E.PV.move rfl rfl) ?_)
              all_goals (refine E.AW.first 18 rfl (by kernel_rfl) (by kernel_rfl) (by kernel_rfl) rfl rfl rfl (E.PV.subs (lo := 22) (hi := 52) Try.underlying22 in5 rfl rfl rfl rfl (by omega) (by omega)) ?_)
              all_goals (refine E.AW.first 19 rfl (by kernel_rfl) (by kernel_rfl) (by kernel_rfl) rfl rfl rfl (E.PV.b2s (bs := (((Cf.encR gX.q).1.drop 22).take 30)) Try.underlying22 Try.underlying5 Try.underlying9 (fun w hw => E.rd_sub (hw.rdrow (i := 1) rfl) (by omega) hcEn) (by simp; omega) rfl rfl) ?_)
              all_goals (refine E.AW.one 20 (by kernel_rfl) rfl ?_)
              all_goals ((refine E.OW.call nm91 rfl rfl rfl rfl rfl rfl _ (fun w hw => tail_ok w) ?_; rintro _ _ ⟨AZ, rfl, rfl⟩))
              all_goals (first | (refine E.AW.nil [0, 1, 4] rfl ?_) | (refine E.AW.nil [1, 2, 5] rfl ?_) | (refine E.AW.nil [2, 3, 6] rfl ?_) | (refine E.AW.nil [3, 4, 7] rfl ?_) | (refine E.AW.nil [4, 5, 8] rfl ?_) | (refine E.AW.nil [5, 6, 9] rfl ?_) | (refine E.AW.nil [6, 7, 10] rfl ?_) | (refine E.AW.nil [0, 0, 3] rfl ?_) | (refine E.AW.nil [0, 0, 2] rfl ?_))
              all_goals (refine E.AW.one 21 (by kernel_rfl) rfl ?_)
              all_goals (refine E.OW.pure rfl rfl rfl (E.PV.b2s Try.underlying22 Try.underlying5 Try.underlying9 (E.rdr (i := 0) rfl) ?_ rfl rfl) ?_; (focus (simp)))
              all_goals (first | (refine E.AW.nil [0, 1, 4] rfl ?_) | (refine E.AW.nil [1, 2, 5] rfl ?_) | (refine E.AW.nil [2, 3, 6] rfl ?_) | (refine E.AW.nil [3, 4, 7] rfl ?_) | (refine E.AW.nil [4, 5, 8] rfl ?_) | (refine E.AW.nil [5, 6, 9] rfl ?_) | (refine E.AW.nil [6, 7, 10] rfl ?_) | (refine E.AW.nil [0, 0, 3] rfl ?_) | (refine E.AW.nil [0, 0, 2] rfl ?_))
              all_goals (refine E.AW.first 22 rfl (by kernel_rfl) (by kernel_rfl) (by kernel_rfl) rfl rfl rfl (E.PV.seq rfl rfl rfl) ?_)
              all_goals (refine E.AW.put 126 (.bool true) rfl (congrArg Value.bool (decide_eq_true htl)) ?_)
              all_goals (refine E.AW.first 23 rfl (by kernel_rfl) (by kernel_rfl) (by kernel_rfl) rfl rfl rfl (E.PV.pick_t rfl rfl rfl) ?_)
              all_goals (refine E.AW.first 24 rfl (by kernel_rfl) (by kernel_rfl) (by kernel_rfl) rfl rfl rfl (E.PV.move rfl rfl) ?_)
              all_goals (refine E.AW.put 128 (.bool true) (v := .bool true) rfl rfl ?_)
              all_goals (refine E.AW.first 25 rfl (by kernel_rfl) (by kernel_rfl) (by kernel_rfl) rfl rfl rfl (E.PV.move rfl rfl) ?_)
              all_goals (refine E.AW.first 26 rfl (by kernel_rfl) (by kernel_rfl) (by kernel_rfl) rfl rfl rfl (E.PV.eql rfl rfl rfl) ?_)
              all_goals (refine E.AW.first 27 rfl (by kernel_rfl) (by kernel_rfl) (by kernel_rfl) rfl rfl rfl (E.PV.pick_t rfl rfl rfl) ?_)
              all_goals (refine E.AW.first 28 rfl (by kernel_rfl) (by kernel_rfl) (by kernel_rfl) rfl rfl rfl (E.PV.move rfl rfl) ?_)
              all_goals (refine E.AW.put 132 (.bool true) (v := .bool true) rfl rfl ?_)
              all_goals (refine E.AW.first 29 rfl (by kernel_rfl) (by kernel_rfl) (by kernel_rfl) rfl rfl rfl (E.PV.loads (i := 2) is28 rfl rfl rfl rfl) ?_)
              all_goals (refine E.AW.first 30 rfl (by kernel_rfl) (by kernel_rfl) (by kernel_rfl) rfl rfl rfl (E.PV.loads (i := 0) is28 rfl rfl rfl rfl) ?_)
              all_goals (refine E.AW.one 31 (by kernel_rfl) rfl ?_)
              all_goals ((refine E.OW.call nm20 rfl rfl rfl rfl rfl rfl _ (fun w hw => rSameC_ok _ _ w ?_ ?_ ?_ ?_) ?_; (focus (exact hw.rdcfg (i := 9) rfl)); (focus (exact hw.rdcfg (i := 3) rfl)); (focus (assumption)); (focus (assumption)); rintro _ _ ⟨rfl, rfl⟩))
              all_goals (first | (refine E.AW.nil [0, 1, 4] rfl ?_) | (refine E.AW.nil [1, 2, 5] rfl ?_) | (refine E.AW.nil [2, 3, 6] rfl ?_) | (refine E.AW.nil [3, 4, 7] rfl ?_) | (refine E.AW.nil [4, 5, 8] rfl ?_) | (refine E.AW.nil [5, 6, 9] rfl ?_) | (refine E.AW.nil [6, 7, 10] rfl ?_) | (refine E.AW.nil [0, 0, 3] rfl ?_) | (refine E.AW.nil [0, 0, 2] rfl ?_))
              all_goals (refine E.AW.put 135 (.bool true) rfl (congrArg Value.bool (decide_eq_true (by rw [hgD, hdec, hgX]))) ?_)
              all_goals (refine E.AW.first 32 rfl (by kernel_rfl) (by kernel_rfl) (by kernel_rfl) rfl rfl rfl (E.PV.pick_t rfl rfl rfl) ?_)
              all_goals (refine E.AW.first 33 rfl (by kernel_rfl) (by kernel_rfl) (by kernel_rfl) rfl rfl rfl (E.PV.assign rfl rfl) ?_)
              all_goals (refine E.AW.done (by kernel_rfl) ?_)
              all_goals (
                skip
                refine E.then_n ?_
                refine E.CW.ret ?_
                refine E.KR.one [] Try.results45 rfl rfl ?_
                exact ⟨by first | rfl | (simp; done), rfl⟩)))))
end Go.Proofs.Ytbdfljgnlendjaa
