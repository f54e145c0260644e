/- Walks (printed by gen.py). -/
import Derived.Test.YtbdfljgnlendjaaG12
import Derived.Test.YtbdfljgnlendjaaCh
namespace Go.Proofs.Ytbdfljgnlendjaa
open Go Go.RowKit
set_option linter.unusedSimpArgs false
set_option linter.unusedVariables false

set_option maxRecDepth 100000 in
theorem ConfigTenants_ok (g : E.Cfg) (w0 : World) (hg : g.rd w0 (E.Old w0)) (hgf : g.q.fit) :
    Calls Try.prog 15 #[g.v] w0 (E.Post w0 (E.Old w0) fun v Hn => v = .bool true ∧ Hn = []) := by
  obtain ⟨hX1, hX2, hX3, hX4⟩ := id hg
  have hgl := E.Cfg.fit_len hgf
  have htn := E.Cfg.ts_len g
  have hty := Cf.tenantsR_len g.q
  refine E.calls_of (vs := [g.v]) (H := []) Try.func15 Try.ntmps15 rfl rfl (E.HA.start w0) ?_
  refine E.CW.seq ?_
  refine E.CW.region ?_
  refine E.OW.box rfl rfl rfl rfl rfl rfl (fun B1 => ?_)
  refine E.OW.pure rfl rfl rfl (E.PV.assign rfl rfl) ?_
  refine E.OW.nil ?_
  refine E.then_n ?_
  refine E.CW.seq ?_
  refine E.CW.region ?_
  (refine E.OW.call nm45 rfl rfl rfl rfl rfl rfl _ (fun w hw => alive_ok w) ?_; rintro _ _ ⟨rfl, rfl⟩)
  refine E.OW.pure rfl rfl rfl (E.PV.assign rfl rfl) ?_
  refine E.OW.nil ?_
  refine E.then_n ?_
  refine E.CW.seq ?_
  refine E.CW.region ?_
  refine E.OW.pure rfl rfl rfl (E.PV.loads (i := 0) is28 rfl rfl rfl rfl) ?_
  (refine E.OW.call nm33 rfl rfl rfl rfl rfl rfl _ (fun w hw => Ck_ok g w ?_ ?_) ?_; (focus (refine hw.rdC ?_; assumption)); (focus (assumption)); rintro _ _ ⟨rfl, rfl⟩)
  refine E.OW.pure rfl rfl rfl (E.PV.assign rfl rfl) ?_
  refine E.OW.nil ?_
  refine E.then_n ?_
  refine E.CW.seq ?_
  refine E.CW.region ?_
  refine E.OW.pure rfl rfl rfl (E.PV.loads (i := 0) is28 rfl rfl rfl rfl) ?_
  (refine E.OW.call nm35 rfl rfl rfl rfl rfl rfl _ (fun w hw => Tt_ok g w ?_ ?_) ?_; (focus (refine hw.rdC ?_; assumption)); (focus (assumption)); rintro _ _ ⟨AY, cY, rfl, rfl⟩)
  refine E.OW.pure rfl rfl rfl (E.PV.move rfl rfl) ?_
  refine E.OW.pure rfl rfl rfl (E.PV.extract rfl rfl rfl) ?_
  refine E.OW.pure rfl rfl rfl (E.PV.extract rfl rfl rfl) ?_
  refine E.OW.pure rfl rfl rfl (E.PV.assign rfl rfl) ?_
  refine E.OW.pure rfl rfl rfl (E.PV.assign rfl rfl) ?_
  refine E.OW.nil ?_
  refine E.then_n ?_
  refine E.CW.seq ?_
  refine E.CW.seq ?_
  refine E.CW.region ?_
  refine E.OW.pure rfl rfl rfl (E.PV.loads (i := 1) is28 rfl rfl rfl rfl) ?_
  (refine E.OW.call nm34 rfl rfl rfl rfl rfl rfl _ (fun w hw => rCk_ok _ w ?_ ?_) ?_; (focus (refine hw.rdC ?_; assumption)); (focus (assumption)); rintro _ _ ⟨rfl, rfl⟩)
  refine E.OW.pure rfl rfl rfl (E.PV.neq rfl rfl rfl) ?_
  refine E.OW.nil ?_
  refine E.then_n ?_
  refine E.CW.cond rfl (fun hc => ?_) (fun hc => ?_)
  · simp only [E.b0, E.b1, E.b2, E.b3, E.b4, E.b5, E.b6, E.b7, E.b8, E.b9, E.b10, E.b11, E.b12, E.b13, E.b14, E.b15, E.b16, E.b17, E.b18, E.b19, E.b20, reduceCtorEq] at hc
    all_goals (
      refine E.CW.seq ?_
      refine E.CW.region ?_
      refine E.OW.pure rfl rfl rfl (E.PV.loads (i := 1) is28 rfl rfl rfl rfl) ?_
      (refine E.OW.call nm31 rfl rfl rfl rfl rfl rfl _ (fun w hw => Pn_ok _ _ w ?_ ?_) ?_; (focus (refine hw.rdC ?_; assumption)); (focus (assumption)); rintro _ _ ⟨rfl, rfl⟩)
      refine E.OW.pure rfl rfl rfl (E.PV.move rfl rfl) ?_
      refine E.OW.pure rfl rfl rfl (E.PV.extract rfl rfl rfl) ?_
      refine E.OW.pure rfl rfl rfl (E.PV.extract rfl rfl rfl) ?_
      refine E.OW.pure rfl rfl rfl (E.PV.assign rfl rfl) ?_
      refine E.OW.pure rfl rfl rfl (E.PV.assign rfl rfl) ?_
      refine E.OW.nil ?_
      refine E.then_n ?_
      refine E.CW.seq ?_
      refine E.CW.region ?_
      refine E.OW.pure rfl rfl rfl (E.PV.loads (i := 1) is28 rfl rfl rfl rfl) ?_
      (refine E.OW.call nm37 rfl rfl rfl rfl rfl rfl _ (fun w hw => On_ok _ _ w ?_ ?_) ?_; (focus (refine hw.rdC ?_; assumption)); (focus (assumption)); rintro _ _ ⟨gO, rfl, rfl, hgO⟩)
      refine E.OW.pure rfl rfl rfl (E.PV.move rfl rfl) ?_
      refine E.OW.pure rfl rfl rfl (E.PV.extract rfl rfl rfl) ?_
      refine E.OW.pure rfl rfl rfl (E.PV.extract rfl rfl rfl) ?_
      refine E.OW.alloc (in28.zr) rfl rfl rfl rfl rfl (fun B2 => ?_)
      refine E.OW.store (i := 0) in28.size rfl rfl rfl rfl rfl rfl rfl rfl rfl ?_
      refine E.OW.pure rfl rfl rfl (E.PV.assign rfl rfl) ?_
      refine E.OW.nil ?_
      refine E.then_n ?_
      refine E.CW.seq ?_
      refine E.CW.region ?_
      refine E.OW.pure rfl rfl rfl (E.PV.loads (i := 3) is28 rfl rfl rfl rfl) ?_
      (refine E.OW.call nm39 rfl rfl rfl rfl rfl rfl _ (fun w hw => En_ok _ w ?_ ?_) ?_; (focus (refine hw.rdC ?_; assumption)); (focus (assumption)); rintro _ _ ⟨AEn, cEn, rfl, rfl⟩)
      refine E.OW.pure rfl rfl rfl (E.PV.move rfl rfl) ?_
      refine E.OW.pure rfl rfl rfl (E.PV.extract rfl rfl rfl) ?_
      refine E.OW.pure rfl rfl rfl (E.PV.extract rfl rfl rfl) ?_
      refine E.OW.pure rfl rfl rfl (E.PV.assign rfl rfl) ?_
      refine E.OW.pure rfl rfl rfl (E.PV.assign rfl rfl) ?_
      refine E.OW.nil ?_
      refine E.then_n ?_
      refine E.CW.seq ?_
      have hcc : ¬ Cf.check g.q = 0 := by assumption
      refine E.CW.put 6 (.int .i64 (Cf.check g.q)) rfl (congrArg (fun x : List Int × Int => Value.int .i64 x.2) (Cf.bad_tenants hcc)) ?_
      refine E.CW.put 8 (.int .i64 (Cf.check g.q)) rfl (congrArg (fun x : Bool × Int => Value.int .i64 x.2) (Cf.bad_pres (t := 0) hcc)) ?_
      refine E.CW.put 10 (.int .i64 (Cf.check g.q)) rfl (congrArg (fun x : Cf.C × Int => Value.int .i64 x.2) (Cf.bad_only (t := 0) hcc)) ?_
      refine E.CW.put 12 (.int .i64 (Cf.check g.q)) rfl (congrArg (fun x : List UInt8 × Int => Value.int .i64 x.2) (Cf.bad_enc hcc)) ?_
      refine E.CW.put 5 (.slice AY 0 cY) rfl (congrArg (fun x : List Int × Int => Value.slice AY x.1.length cY) (Cf.bad_tenants hcc)) ?_
      refine E.CW.region ?_
      refine E.OW.pure rfl rfl rfl (E.PV.move rfl rfl) ?_
      refine E.OW.pure rfl rfl rfl (E.PV.move rfl rfl) ?_
      all_goals (refine E.OW.put 49 (.bool true) (v := .bool true) rfl rfl ?_)
      all_goals (refine E.OW.pure rfl rfl rfl (E.PV.move rfl rfl) ?_)
      all_goals (refine E.OW.pure rfl rfl rfl (E.PV.neq rfl rfl rfl) ?_)
      all_goals (refine E.OW.pure rfl rfl rfl (E.PV.pick_t rfl rfl rfl) ?_)
      all_goals (refine E.OW.pure rfl rfl rfl (E.PV.move rfl rfl) ?_)
      all_goals (refine E.OW.put 53 (.bool true) rfl (congrArg Value.bool ?_) ?_; (focus ((simp only [E.b0, E.b1, E.b2, E.b3, E.b4, E.b5, E.b6, E.b7, E.b8, E.b9, E.b10, E.b11, E.b12, E.b13, E.b14, E.b15, E.b16, E.b17, E.b18, E.b19, E.b20]; omega))))
      all_goals (refine E.OW.pure rfl rfl rfl (E.PV.move rfl rfl) ?_)
      all_goals (refine E.OW.pure rfl rfl rfl (E.PV.move rfl rfl) ?_)
      all_goals (refine E.OW.pure rfl rfl rfl (E.PV.eql rfl rfl rfl) ?_)
      all_goals (refine E.OW.pure rfl rfl rfl (E.PV.pick_t rfl rfl rfl) ?_)
      all_goals (refine E.OW.pure rfl rfl rfl (E.PV.move rfl rfl) ?_)
      all_goals (refine E.OW.put 58 (.bool true) rfl (congrArg Value.bool ?_) ?_; (focus ((simp only [E.b0, E.b1, E.b2, E.b3, E.b4, E.b5, E.b6, E.b7, E.b8, E.b9, E.b10, E.b11, E.b12, E.b13, E.b14, E.b15, E.b16, E.b17, E.b18, E.b19, E.b20]; done))))
      all_goals (refine E.OW.pure rfl rfl rfl (E.PV.move rfl rfl) ?_)
      all_goals (refine E.OW.pure rfl rfl rfl (E.PV.move rfl rfl) ?_)
      all_goals (refine E.OW.pure rfl rfl rfl (E.PV.eql rfl rfl rfl) ?_)
      all_goals (refine E.OW.pure rfl rfl rfl (E.PV.pick_t rfl rfl rfl) ?_)
      all_goals (refine E.OW.pure rfl rfl rfl (E.PV.move rfl rfl) ?_)
      all_goals (refine E.OW.put 63 (.bool true) rfl (congrArg Value.bool ?_) ?_; (focus ((simp only [E.b0, E.b1, E.b2, E.b3, E.b4, E.b5, E.b6, E.b7, E.b8, E.b9, E.b10, E.b11, E.b12, E.b13, E.b14, E.b15, E.b16, E.b17, E.b18, E.b19, E.b20]; done))))
      all_goals (refine E.OW.pure rfl rfl rfl (E.PV.move rfl rfl) ?_)
      all_goals (refine E.OW.pure rfl rfl rfl (E.PV.move rfl rfl) ?_)
      all_goals (refine E.OW.pure rfl rfl rfl (E.PV.eql rfl rfl rfl) ?_)
      all_goals (refine E.OW.pure rfl rfl rfl (E.PV.pick_t rfl rfl rfl) ?_)
      all_goals (refine E.OW.pure rfl rfl rfl (E.PV.move rfl rfl) ?_)
      all_goals (refine E.OW.put 68 (.bool true) rfl (congrArg Value.bool ?_) ?_; (focus ((simp only [E.b0, E.b1, E.b2, E.b3, E.b4, E.b5, E.b6, E.b7, E.b8, E.b9, E.b10, E.b11, E.b12, E.b13, E.b14, E.b15, E.b16, E.b17, E.b18, E.b19, E.b20]; done))))
      all_goals (refine E.OW.pure rfl rfl rfl (E.PV.move rfl rfl) ?_)
      all_goals (refine E.OW.pure rfl rfl rfl (E.PV.move rfl rfl) ?_)
      all_goals (refine E.OW.pure rfl rfl rfl (E.PV.eql rfl rfl rfl) ?_)
      all_goals (refine E.OW.pure rfl rfl rfl (E.PV.pick_t rfl rfl rfl) ?_)
      all_goals (refine E.OW.pure rfl rfl rfl (E.PV.move rfl rfl) ?_)
      all_goals (refine E.OW.put 73 (.bool true) rfl (congrArg Value.bool ?_) ?_; (focus ((simp only [E.b0, E.b1, E.b2, E.b3, E.b4, E.b5, E.b6, E.b7, E.b8, E.b9, E.b10, E.b11, E.b12, E.b13, E.b14, E.b15, E.b16, E.b17, E.b18, E.b19, E.b20]; done))))
      all_goals (refine E.OW.pure rfl rfl rfl (E.PV.move rfl rfl) ?_)
      all_goals (refine E.OW.pure rfl rfl rfl (E.PV.len Try.underlying31 rfl rfl) ?_)
      all_goals (refine E.OW.pure rfl rfl rfl (E.PV.eql rfl rfl rfl) ?_)
      all_goals (refine E.OW.pure rfl rfl rfl (E.PV.pick_t rfl rfl rfl) ?_)
      all_goals (refine E.OW.pure rfl rfl rfl (E.PV.assign rfl rfl) ?_)
      all_goals (
        refine E.OW.nil ?_
        refine E.then_n ?_
        refine E.CW.ret ?_
        refine E.then_ret ?_
        refine E.KR.one [] Try.results15 rfl rfl ?_
        exact ⟨by first | rfl | (simp; done), rfl⟩))
  · simp only [E.b0, E.b1, E.b2, E.b3, E.b4, E.b5, E.b6, E.b7, E.b8, E.b9, E.b10, E.b11, E.b12, E.b13, E.b14, E.b15, E.b16, E.b17, E.b18, E.b19, E.b20, reduceCtorEq] at hc
    all_goals (
      refine E.CW.skip ?_
      refine E.then_n ?_
      refine E.CW.seq ?_
      refine E.CW.seq ?_
      have hz : Cf.check g.q = 0 := by first | assumption | omega
      have hT := Cf.tenants_ok hz
      have hTp := Cf.tenants_pos hz
      have hTl := Cf.tenants_len g.q.ts g.q.ts.length
      refine E.CW.put 4 (.int .i64 0) rfl (congrArg (Value.int .i64) hz) ?_
      refine E.CW.put 6 (.int .i64 0) rfl (congrArg (fun x : List Int × Int => Value.int .i64 x.2) hT) ?_
      refine E.CW.put 5 (.slice AY (Cf.tenants g.q.ts g.q.ts.length).length cY) rfl (congrArg (fun x : List Int × Int => Value.slice AY x.1.length cY) hT) ?_
      refine E.CW.chunk 0 (E.HP.row 3 1 AY (Cf.tenants g.q.ts g.q.ts.length).length cY (E.ints (Cf.tenants g.q.ts g.q.ts.length))) rfl (congrArg (fun x : List Int × Int => E.HP.row 3 1 AY x.1.length cY (E.ints x.1)) hT) ?_
      refine E.CW.region ?_
      refine E.OW.pure rfl rfl rfl (E.PV.move rfl rfl) ?_
      refine E.OW.pure rfl rfl rfl (E.PV.neq rfl rfl rfl) ?_
      refine E.OW.pure rfl rfl rfl (E.PV.move rfl rfl) ?_
      all_goals (refine E.OW.put 80 (.bool false) (v := .bool false) rfl rfl ?_)
      all_goals (refine E.OW.pure rfl rfl rfl (E.PV.move rfl rfl) ?_)
      all_goals (refine E.OW.pure rfl rfl rfl (E.PV.neq rfl rfl rfl) ?_)
      all_goals (refine E.OW.pure rfl rfl rfl (E.PV.pick_f rfl rfl rfl) ?_)
      all_goals (refine E.OW.pure rfl rfl rfl (E.PV.move rfl rfl) ?_)
      all_goals (refine E.OW.put 84 (.bool false) (v := .bool false) rfl rfl ?_)
      all_goals (refine E.OW.pure rfl rfl rfl (E.PV.move rfl rfl) ?_)
      all_goals (refine E.OW.pure rfl rfl rfl (E.PV.len Try.underlying31 rfl rfl) ?_)
      all_goals (refine E.OW.pure rfl rfl rfl (E.PV.lss rfl rfl rfl) ?_)
      all_goals (refine E.OW.pure rfl rfl rfl (E.PV.pick_f rfl rfl rfl) ?_)
      all_goals (
        refine E.OW.nil ?_
        refine E.then_n ?_
        refine E.CW.cond rfl (fun hc => ?_) (fun hc => ?_)
        · simp only [E.b0, E.b1, E.b2, E.b3, E.b4, E.b5, E.b6, E.b7, E.b8, E.b9, E.b10, E.b11, E.b12, E.b13, E.b14, E.b15, E.b16, E.b17, E.b18, E.b19, E.b20, reduceCtorEq] at hc
          all_goals (exfalso; omega)
        · simp only [E.b0, E.b1, E.b2, E.b3, E.b4, E.b5, E.b6, E.b7, E.b8, E.b9, E.b10, E.b11, E.b12, E.b13, E.b14, E.b15, E.b16, E.b17, E.b18, E.b19, E.b20, reduceCtorEq] at hc
          all_goals (
            refine E.CW.skip ?_
            refine E.then_n ?_
            refine E.CW.seq ?_
            refine E.CW.region ?_
            refine E.OW.pure rfl rfl rfl (E.PV.assign rfl rfl) ?_
            refine E.OW.nil ?_
            refine E.then_n ?_
            refine E.CW.seq ?_
            refine E.CW.seq ?_
            refine E.CW.region ?_
            refine E.OW.pure rfl rfl rfl (E.PV.assign rfl rfl) ?_
            refine E.OW.nil ?_
            refine E.then_n ?_
            refine E.CW.block ?_
            refine E.CW.loopk [1, 3, 5] 0 rfl rfl (fun mm mods Hm => ∃ k : Nat, ∃ n : Nat, mm = g.ts.length - k ∧ mods = [(14, .int .i64 k), (13, .int .i64 n)] ∧ Hm = [] ∧ (k ≤ g.ts.length ∧ n = (Cf.tenants g.q.ts k).length)) (g.ts.length) ?_ ?_
            · exact ⟨[(14, _), (13, _)], (by repeat (first | exact E.cov_nil | refine ⟨rfl, ?_⟩)), 0, 0, rfl, rfl, rfl, by omega, rfl⟩
            · rintro _ _ _ ⟨k, n, rfl, rfl, rfl, hk, hn⟩
              have htk := Cf.tenants_len g.q.ts k
              refine E.CW.seq ?_
              refine E.CW.seq ?_
              refine E.CW.region ?_
              refine E.OW.pure rfl rfl rfl (E.PV.move rfl rfl) ?_
              refine E.OW.pure rfl rfl rfl (E.PV.fieldAddr fa28_2 rfl rfl) ?_
              refine E.OW.pure rfl rfl rfl (E.PV.load (i := 1) na25 rfl rfl rfl rfl) ?_
              refine E.OW.pure rfl rfl rfl (E.PV.len Try.underlying25 rfl rfl) ?_
              refine E.OW.pure rfl rfl rfl (E.PV.lss rfl rfl rfl) ?_
              refine E.OW.nil ?_
              refine E.then_n ?_
              refine E.CW.cond rfl (fun hc => ?_) (fun hc => ?_)
              · simp only [E.b0, E.b1, E.b2, E.b3, E.b4, E.b5, E.b6, E.b7, E.b8, E.b9, E.b10, E.b11, E.b12, E.b13, E.b14, E.b15, E.b16, E.b17, E.b18, E.b19, E.b20, reduceCtorEq] at hc
                all_goals (
                  refine E.CW.skip ?_
                  refine E.then_n ?_
                  refine E.CW.seq ?_
                  refine E.CW.block ?_
                  refine E.CW.seq ?_
                  refine E.CW.region ?_
                  refine E.OW.pure rfl rfl rfl (E.PV.loads (i := 1) is28 rfl rfl rfl rfl) ?_
                  refine E.OW.pure rfl rfl rfl (E.PV.move rfl rfl) ?_
                  (refine E.OW.call nm31 rfl rfl rfl rfl rfl rfl _ (fun w hw => Pn_ok _ _ w ?_ ?_) ?_; (focus (refine hw.rdC ?_; assumption)); (focus (assumption)); rintro _ _ ⟨rfl, rfl⟩)
                  refine E.OW.pure rfl rfl rfl (E.PV.move rfl rfl) ?_
                  refine E.OW.pure rfl rfl rfl (E.PV.extract rfl rfl rfl) ?_
                  refine E.OW.pure rfl rfl rfl (E.PV.extract rfl rfl rfl) ?_
                  refine E.OW.pure rfl rfl rfl (E.PV.assign rfl rfl) ?_
                  refine E.OW.pure rfl rfl rfl (E.PV.assign rfl rfl) ?_
                  refine E.OW.nil ?_
                  refine E.then_n ?_
                  refine E.CW.seq ?_
                  refine E.CW.seq ?_
                  have hpr := Cf.pres_ok hz (k := k) (by rw [htn]; omega)
                  have hgt := E.Cfg.ts_getD g k
                  have hpa : (Cf.present g.q.ts (k : Int) == Cf.absent (g.ts.getD k E.Tm.z).q) = false := by rw [Cf.present_at (by rw [htn]; omega), hgt]; cases Cf.absent (g.ts.getD k E.Tm.z).q <;> rfl
                  have hct : Cf.checkTeam g.a g.b g.l (k : Int) (g.ts.getD k E.Tm.z).q = 0 := by rw [← hgt]; exact Cf.team_ok hz (by rw [htn]; omega)
                  refine E.CW.put 15 (.bool (Cf.present g.q.ts (k : Int))) rfl (congrArg (fun x : Bool × Int => Value.bool x.1) hpr) ?_
                  refine E.CW.put 16 (.int .i64 0) rfl (congrArg (fun x : Bool × Int => Value.int .i64 x.2) hpr) ?_
                  refine E.CW.draw mixed (by kernel_rfl) ?_
                  refine E.QW.pure rfl rfl rfl (E.PV.move rfl rfl) ?_
                  refine E.QW.pure rfl rfl rfl (E.PV.neq rfl rfl rfl) ?_
                  refine E.QW.pure rfl rfl rfl (E.PV.move rfl rfl) ?_
                  all_goals (refine E.QW.put 104 (.bool false) (v := .bool false) rfl rfl ?_)
                  all_goals (refine E.QW.pure rfl rfl rfl (E.PV.move rfl rfl) ?_)
                  all_goals (refine E.QW.pure rfl rfl rfl (E.PV.fieldAddr fa28_2 rfl rfl) ?_)
                  all_goals (refine E.QW.pure rfl rfl rfl (E.PV.load (i := 1) na25 rfl rfl rfl rfl) ?_)
                  all_goals (refine E.QW.pure rfl rfl rfl (E.PV.move rfl rfl) ?_)
                  all_goals (refine E.QW.pure rfl rfl rfl (E.PV.indexAddr (E.rdc hX3) Try.underlying25 in33 rfl rfl rfl rfl ?_ ?_ (by decide)) ?_; (focus (first | (simp; done) | (simp; omega))); (focus (omega)))
                  all_goals (refine E.QW.pure rfl rfl rfl (E.PV.load_tm (E.rdc hX3) is33 rfl rfl ?_) ?_; (focus (omega)))
                  all_goals ((refine E.QW.call nm24 rfl rfl rfl rfl rfl rfl _ (fun w hw => E.Post.val (Ab_ok (g.ts.getD k E.Tm.z) w (hw.rdm (hg.m _ (E.Tm.mem (by omega)))) (E.Cfg.fit_m hgf _ (E.Tm.mem (by omega))))) ?_))
                  all_goals (refine E.QW.pure rfl rfl rfl (E.PV.beq Try.underlying4 rfl rfl rfl) ?_)
                  all_goals (refine E.QW.pure rfl rfl rfl (E.PV.pick_f rfl rfl rfl) ?_)
                  all_goals (refine E.QW.pure rfl rfl rfl (E.PV.move rfl rfl) ?_)
                  all_goals (refine E.QW.put 114 (.bool false) rfl (congrArg Value.bool ?_) ?_; (focus (assumption)))
                  all_goals (refine E.QW.pure rfl rfl rfl (E.PV.fieldAddr fa28_0 rfl rfl) ?_)
                  all_goals (refine E.QW.pure rfl rfl rfl (E.PV.loads (i := 1) is24 rfl rfl rfl rfl) ?_)
                  all_goals (refine E.QW.pure rfl rfl rfl (E.PV.move rfl rfl) ?_)
                  all_goals (refine E.QW.pure rfl rfl rfl (E.PV.fieldAddr fa28_2 rfl rfl) ?_)
                  all_goals (refine E.QW.pure rfl rfl rfl (E.PV.load (i := 1) na25 rfl rfl rfl rfl) ?_)
                  all_goals (refine E.QW.pure rfl rfl rfl (E.PV.move rfl rfl) ?_)
                  all_goals (refine E.QW.pure rfl rfl rfl (E.PV.indexAddr (E.rdc hX3) Try.underlying25 in33 rfl rfl rfl rfl ?_ ?_ (by decide)) ?_; (focus (first | (simp; done) | (simp; omega))); (focus (omega)))
                  all_goals (refine E.QW.pure rfl rfl rfl (E.PV.load_tm (E.rdc hX3) is33 rfl rfl ?_) ?_; (focus (omega)))
                  all_goals ((refine E.QW.call nm28 rfl rfl rfl rfl rfl rfl _ (fun w hw => E.Post.val (CT_ok _ _ _ _ g.l (k : Int) (g.ts.getD k E.Tm.z) w ?_ ?_ (hw.rdm (hg.m _ (E.Tm.mem (by omega)))) (E.Cfg.fit_m hgf _ (E.Tm.mem (by omega))))) ?_; (focus (omega)); (focus (refine hw.rd ?_; assumption))))
                  all_goals (refine E.QW.pure rfl rfl rfl (E.PV.neq rfl rfl rfl) ?_)
                  all_goals (refine E.QW.pure rfl rfl rfl (E.PV.pick_f rfl rfl rfl) ?_)
                  all_goals (
                    refine E.QW.nil ?_
                    refine E.then_n ?_
                    refine E.CW.cond rfl (fun hc => ?_) (fun hc => ?_)
                    · simp only [E.b0, E.b1, E.b2, E.b3, E.b4, E.b5, E.b6, E.b7, E.b8, E.b9, E.b10, E.b11, E.b12, E.b13, E.b14, E.b15, E.b16, E.b17, E.b18, E.b19, E.b20, reduceCtorEq] at hc
                      all_goals (exfalso; contradiction)
                    · simp only [E.b0, E.b1, E.b2, E.b3, E.b4, E.b5, E.b6, E.b7, E.b8, E.b9, E.b10, E.b11, E.b12, E.b13, E.b14, E.b15, E.b16, E.b17, E.b18, E.b19, E.b20, reduceCtorEq] at hc
                      all_goals (
                        refine E.CW.skip ?_
                        refine E.then_n ?_
                        refine E.CW.seq ?_
                        refine E.CW.region ?_
                        refine E.OW.pure rfl rfl rfl (E.PV.fieldAddr fa28_0 rfl rfl) ?_
                        refine E.OW.pure rfl rfl rfl (E.PV.loads (i := 1) is24 rfl rfl rfl rfl) ?_
                        refine E.OW.pure rfl rfl rfl (E.PV.move rfl rfl) ?_
                        (refine E.OW.call nm50 rfl rfl rfl rfl rfl rfl _ (fun w hw => Private_ok _ _ _ _ _ _ w ?_ ?_) ?_; (focus (omega)); (focus (refine hw.rd ?_; assumption)); rintro _ _ ⟨_, _, rfl, rfl⟩)
                        refine E.OW.pure rfl rfl rfl (E.PV.move rfl rfl) ?_
                        refine E.OW.pure rfl rfl rfl (E.PV.extract rfl rfl rfl) ?_
                        refine E.OW.pure rfl rfl rfl (E.PV.extract rfl rfl rfl) ?_
                        refine E.OW.pure rfl rfl rfl (E.PV.assign rfl rfl) ?_
                        refine E.OW.pure rfl rfl rfl (E.PV.assign rfl rfl) ?_
                        refine E.OW.nil ?_
                        refine E.then_n ?_
                        refine E.CW.seq ?_
                        refine E.CW.seq ?_
                        have hpv := Cf.priv_two hz (k := k) (by rw [htn]; omega)
                        have hpn : Cf.present g.q.ts (k : Int) = true ∨ (Fl.priv g.a g.b g.l (k : Int)).1.length = 0 := by
                          cases hp : Cf.present g.q.ts (k : Int) with
                          | true => exact .inl rfl
                          | false => exact .inr (congrArg List.length (Cf.priv_none hz (k := k) (by rw [htn]; omega) hp))
                        refine E.CW.put 18 (.int .i64 0) rfl (congrArg (Value.int .i64) hpv) ?_
                        refine E.CW.region ?_
                        refine E.OW.pure rfl rfl rfl (E.PV.move rfl rfl) ?_
                        refine E.OW.pure rfl rfl rfl (E.PV.neq rfl rfl rfl) ?_
                        refine E.OW.pure rfl rfl rfl (E.PV.move rfl rfl) ?_
                        all_goals (refine E.OW.put 135 (.bool false) (v := .bool false) rfl rfl ?_)
                        all_goals (refine E.OW.pure rfl rfl rfl (E.PV.move rfl rfl) ?_)
                        all_goals (refine E.OW.pure rfl rfl rfl (E.PV.not rfl rfl) ?_)
                        all_goals (refine E.OW.pure rfl rfl rfl (E.PV.move rfl rfl) ?_)
                        all_goals (refine E.OW.split 138 rfl (fun hc => ?_) (fun hc => ?_) <;> (try simp only [E.b0, E.b1, E.b2, E.b3, E.b4, E.b5, E.b6, E.b7, E.b8, E.b9, E.b10, E.b11, E.b12, E.b13, E.b14, E.b15, E.b16, E.b17, E.b18, E.b19, E.b20, reduceCtorEq] at hc) <;> (try (exfalso; first | assumption | contradiction | omega)))
                        all_goals (first | (refine E.OW.off rfl rfl rfl ?_) | (refine E.OW.pure rfl rfl rfl (E.PV.move rfl rfl) ?_))
                        all_goals (first | (refine E.OW.off rfl rfl rfl ?_) | (refine E.OW.pure rfl rfl rfl (E.PV.len Try.underlying31 rfl rfl) ?_))
                        all_goals (first | (refine E.OW.off rfl rfl rfl ?_) | (refine E.OW.pure rfl rfl rfl (E.PV.gtr rfl rfl rfl) ?_))
                        all_goals (first | (refine E.OW.pure rfl rfl rfl (E.PV.pick_t rfl rfl rfl) ?_) | (refine E.OW.pure rfl rfl rfl (E.PV.pick_f rfl rfl rfl) ?_))
                        all_goals (refine E.OW.pure rfl rfl rfl (E.PV.pick_f rfl rfl rfl) ?_)
                        all_goals (
                          refine E.OW.nil ?_
                          refine E.then_n ?_
                          refine E.CW.cond rfl (fun hc => ?_) (fun hc => ?_)
                          · first | ((cases hc; done)) | (simp only [E.b0, E.b1, E.b2, E.b3, E.b4, E.b5, E.b6, E.b7, E.b8, E.b9, E.b10, E.b11, E.b12, E.b13, E.b14, E.b15, E.b16, E.b17, E.b18, E.b19, E.b20, reduceCtorEq] at hc)
                            all_goals (exfalso; (rcases hpn with h1 | h1 <;> (first | omega | (simp [*] at h1; done))))
                          · simp only [E.b0, E.b1, E.b2, E.b3, E.b4, E.b5, E.b6, E.b7, E.b8, E.b9, E.b10, E.b11, E.b12, E.b13, E.b14, E.b15, E.b16, E.b17, E.b18, E.b19, E.b20, reduceCtorEq] at hc
                            all_goals (
                              refine E.CW.skip ?_
                              refine E.then_n ?_
                              refine E.CW.seq ?_
                              refine E.CW.region ?_
                              refine E.OW.pure rfl rfl rfl (E.PV.move rfl rfl) ?_
                              refine E.OW.nil ?_
                              refine E.then_n ?_
                              refine E.CW.cond rfl (fun hc => ?_) (fun hc => ?_)
                              · skip
                                all_goals (
                                  refine E.CW.seq ?_
                                  refine E.CW.seq ?_
                                  have hpt : Cf.present g.q.ts (k : Int) = true := by assumption
                                  have hta := Cf.tenants_at (ts := g.q.ts) (k := k) (by rw [htn]; omega) hpt
                                  have hys := Cf.tenants_yes hpt
                                  refine E.CW.region ?_
                                  refine E.OW.pure rfl rfl rfl (E.PV.move rfl rfl) ?_
                                  refine E.OW.pure rfl rfl rfl (E.PV.move rfl rfl) ?_
                                  refine E.OW.pure rfl rfl rfl (E.PV.len Try.underlying31 rfl rfl) ?_
                                  refine E.OW.pure rfl rfl rfl (E.PV.geq rfl rfl rfl) ?_
                                  refine E.OW.pure rfl rfl rfl (E.PV.move rfl rfl) ?_
                                  all_goals (refine E.OW.put 149 (.bool false) rfl (congrArg Value.bool ?_) ?_; (focus ((simp only [E.b0, E.b1, E.b2, E.b3, E.b4, E.b5, E.b6, E.b7, E.b8, E.b9, E.b10, E.b11, E.b12, E.b13, E.b14, E.b15, E.b16, E.b17, E.b18, E.b19, E.b20]; omega))))
                                  all_goals (refine E.OW.pure rfl rfl rfl (E.PV.move rfl rfl) ?_)
                                  all_goals (refine E.OW.pure rfl rfl rfl (E.PV.move rfl rfl) ?_)
                                  all_goals (refine E.OW.pure rfl rfl rfl (E.PV.indexAddr1 (E.rdr (i := 1) rfl) Try.underlying31 in3 rfl rfl rfl rfl ?_ ?_) ?_; (focus (first | (simp; done) | (simp; omega))); (focus (omega)))
                                  all_goals (refine E.OW.pure rfl rfl rfl (E.PV.load_int (E.rdr (i := 1) rfl) na3 rfl rfl ?_) ?_; (focus (omega)))
                                  all_goals (refine E.OW.pure rfl rfl rfl (E.PV.move rfl rfl) ?_)
                                  all_goals (refine E.OW.pure rfl rfl rfl (E.PV.neq rfl rfl rfl) ?_)
                                  all_goals (refine E.OW.pure rfl rfl rfl (E.PV.pick_f rfl rfl rfl) ?_)
                                  all_goals (
                                    refine E.OW.nil ?_
                                    refine E.then_n ?_
                                    refine E.CW.cond rfl (fun hc => ?_) (fun hc => ?_)
                                    · simp only [E.b0, E.b1, E.b2, E.b3, E.b4, E.b5, E.b6, E.b7, E.b8, E.b9, E.b10, E.b11, E.b12, E.b13, E.b14, E.b15, E.b16, E.b17, E.b18, E.b19, E.b20, reduceCtorEq] at hc
                                      all_goals (exfalso; (rw [hn, hta.2] at hc; exact hc rfl))
                                    · simp only [E.b0, E.b1, E.b2, E.b3, E.b4, E.b5, E.b6, E.b7, E.b8, E.b9, E.b10, E.b11, E.b12, E.b13, E.b14, E.b15, E.b16, E.b17, E.b18, E.b19, E.b20, reduceCtorEq] at hc
                                      all_goals (
                                        refine E.CW.skip ?_
                                        refine E.then_n ?_
                                        refine E.CW.region ?_
                                        refine E.OW.pure rfl rfl rfl (E.PV.move rfl rfl) ?_
                                        refine E.OW.pure rfl rfl rfl (E.PV.add_i64 rfl rfl rfl ?_) ?_; (focus (omega))
                                        refine E.OW.pure rfl rfl rfl (E.PV.assign rfl rfl) ?_
                                        refine E.OW.nil ?_
                                        refine E.blk_n ?_
                                        refine E.then_n ?_
                                        refine E.CW.region ?_
                                        refine E.OW.pure rfl rfl rfl (E.PV.move rfl rfl) ?_
                                        refine E.OW.pure rfl rfl rfl (E.PV.add_i64 rfl rfl rfl ?_) ?_; (focus (omega))
                                        refine E.OW.pure rfl rfl rfl (E.PV.assign rfl rfl) ?_
                                        refine E.OW.nil ?_
                                        refine E.then_nf ?_
                                        refine ⟨_, [(14, _), (13, _)], [1, 1], _, ?_, by repeat (first | exact E.cov_nil | refine ⟨rfl, ?_⟩), rfl, k + 1, n + 1, rfl, rfl, rfl, by omega, by rw [hys, List.length_append, ← hn]; rfl⟩
                                        omega)))
                              · skip
                                all_goals (
                                  refine E.CW.skip ?_
                                  refine E.blk_n ?_
                                  refine E.then_n ?_
                                  refine E.CW.region ?_
                                  refine E.OW.pure rfl rfl rfl (E.PV.move rfl rfl) ?_
                                  refine E.OW.pure rfl rfl rfl (E.PV.add_i64 rfl rfl rfl ?_) ?_; (focus (omega))
                                  refine E.OW.pure rfl rfl rfl (E.PV.assign rfl rfl) ?_
                                  refine E.OW.nil ?_
                                  refine E.then_nf ?_
                                  refine ⟨_, [(14, _), (13, _)], [1, 1], _, ?_, by repeat (first | exact E.cov_nil | refine ⟨rfl, ?_⟩), rfl, k + 1, n, rfl, rfl, rfl, by omega, by rw [Cf.tenants_no (by assumption), hn]⟩
                                  omega))))))
              · simp only [E.b0, E.b1, E.b2, E.b3, E.b4, E.b5, E.b6, E.b7, E.b8, E.b9, E.b10, E.b11, E.b12, E.b13, E.b14, E.b15, E.b16, E.b17, E.b18, E.b19, E.b20, reduceCtorEq] at hc
                all_goals (
                  refine E.CW.exit ?_
                  refine E.then_x ?_
                  refine E.then_x ?_
                  refine E.blk_eq ?_
                  refine E.then_n ?_
                  refine E.CW.seq ?_
                  refine E.CW.seq ?_
                  refine E.CW.region ?_
                  refine E.OW.pure rfl rfl rfl (E.PV.assign rfl rfl) ?_
                  refine E.OW.nil ?_
                  refine E.then_n ?_
                  refine E.CW.block ?_
                  refine E.CW.loopk [1, 3, 5, 13] 0 rfl rfl (fun mm mods Hm => ∃ k2 : Nat, mm = g.s.length - k2 ∧ mods = [(19, .int .i64 k2)] ∧ Hm = [] ∧ k2 ≤ g.s.length) (g.s.length) ?_ ?_
                  · exact ⟨[(19, _)], (by repeat (first | exact E.cov_nil | refine ⟨rfl, ?_⟩)), 0, rfl, rfl, rfl, by omega⟩
                  · rintro _ _ _ ⟨k2, rfl, rfl, rfl, hk2⟩
                    refine E.CW.seq ?_
                    refine E.CW.seq ?_
                    refine E.CW.region ?_
                    refine E.OW.pure rfl rfl rfl (E.PV.move rfl rfl) ?_
                    refine E.OW.pure rfl rfl rfl (E.PV.fieldAddr fa28_1 rfl rfl) ?_
                    refine E.OW.pure rfl rfl rfl (E.PV.load (i := 1) na22 rfl rfl rfl rfl) ?_
                    refine E.OW.pure rfl rfl rfl (E.PV.len Try.underlying22 rfl rfl) ?_
                    refine E.OW.pure rfl rfl rfl (E.PV.lss rfl rfl rfl) ?_
                    refine E.OW.nil ?_
                    refine E.then_n ?_
                    refine E.CW.cond rfl (fun hc => ?_) (fun hc => ?_)
                    · simp only [E.b0, E.b1, E.b2, E.b3, E.b4, E.b5, E.b6, E.b7, E.b8, E.b9, E.b10, E.b11, E.b12, E.b13, E.b14, E.b15, E.b16, E.b17, E.b18, E.b19, E.b20, reduceCtorEq] at hc
                      all_goals (
                        refine E.CW.skip ?_
                        refine E.then_n ?_
                        refine E.CW.seq ?_
                        refine E.CW.block ?_
                        refine E.CW.seq ?_
                        refine E.CW.region ?_
                        refine E.OW.pure rfl rfl rfl (E.PV.fieldAddr fa28_1 rfl rfl) ?_
                        refine E.OW.pure rfl rfl rfl (E.PV.load (i := 1) na22 rfl rfl rfl rfl) ?_
                        refine E.OW.pure rfl rfl rfl (E.PV.move rfl rfl) ?_
                        refine E.OW.pure rfl rfl rfl (E.PV.conv_in Try.underlying3 Try.underlying26 rfl rfl ?_) ?_; (focus (first | exact E.wrap_u8 _ | (simp only [IntKind.wrap_i64, IntKind.wrap_u64, IntKind.wrap_u8]; omega)))
                        (refine E.OW.call nm51 rfl rfl rfl rfl rfl rfl _ (fun w hw => SliceOwner_ok _ _ _ _ ?_ w ?_ ?_) ?_; (focus (omega)); (focus (omega)); (focus (refine hw.rd ?_; assumption)); rintro _ _ ⟨rfl, rfl⟩)
                        refine E.OW.pure rfl rfl rfl (E.PV.move rfl rfl) ?_
                        refine E.OW.pure rfl rfl rfl (E.PV.extract rfl rfl rfl) ?_
                        refine E.OW.pure rfl rfl rfl (E.PV.extract rfl rfl rfl) ?_
                        refine E.OW.pure rfl rfl rfl (E.PV.assign rfl rfl) ?_
                        refine E.OW.pure rfl rfl rfl (E.PV.assign rfl rfl) ?_
                        refine E.OW.nil ?_
                        refine E.then_n ?_
                        refine E.CW.seq ?_
                        have hso := Cf.slice_who hz (k := k2) (show k2 < g.s.length by omega)
                        have hsp : ((g.s.getD k2 0).toNat : Int) - 1 < 0 ∨ Cf.present g.q.ts (((g.s.getD k2 0).toNat : Int) - 1) = true := by
                          rcases Int.lt_or_le (((g.s.getD k2 0).toNat : Int) - 1) 0 with h | h
                          · exact .inl h
                          · exact .inr (Cf.slice_pres hz (k := k2) (show k2 < g.s.length by omega) h)
                        refine E.CW.put 20 (.int .i64 (((g.s.getD k2 0).toNat : Int) - 1)) rfl (congrArg (fun x : Int × Int => Value.int .i64 x.1) hso) ?_
                        refine E.CW.put 21 (.int .i64 0) rfl (congrArg (fun x : Int × Int => Value.int .i64 x.2) hso) ?_
                        refine E.CW.region ?_
                        refine E.OW.pure rfl rfl rfl (E.PV.move rfl rfl) ?_
                        refine E.OW.pure rfl rfl rfl (E.PV.neq rfl rfl rfl) ?_
                        refine E.OW.pure rfl rfl rfl (E.PV.move rfl rfl) ?_
                        all_goals (refine E.OW.put 176 (.bool false) (v := .bool false) rfl rfl ?_)
                        all_goals (refine E.OW.pure rfl rfl rfl (E.PV.move rfl rfl) ?_)
                        all_goals (refine E.OW.pure rfl rfl rfl (E.PV.geq rfl rfl rfl) ?_)
                        all_goals (refine E.OW.pure rfl rfl rfl (E.PV.move rfl rfl) ?_)
                        all_goals (refine E.OW.split 179 rfl (fun hc => ?_) (fun hc => ?_) <;> (try simp only [E.b0, E.b1, E.b2, E.b3, E.b4, E.b5, E.b6, E.b7, E.b8, E.b9, E.b10, E.b11, E.b12, E.b13, E.b14, E.b15, E.b16, E.b17, E.b18, E.b19, E.b20, reduceCtorEq] at hc) <;> (try (exfalso; first | assumption | contradiction | omega)))
                        all_goals (first | (refine E.OW.off rfl rfl rfl ?_) | (refine E.OW.pure rfl rfl rfl (E.PV.loads (i := 1) is28 rfl rfl rfl rfl) ?_))
                        all_goals (first | (refine E.OW.off rfl rfl rfl ?_) | (refine E.OW.pure rfl rfl rfl (E.PV.move rfl rfl) ?_))
                        all_goals (first | (refine E.OW.off rfl rfl rfl ?_) | ((refine E.OW.call nm47 rfl rfl rfl rfl rfl rfl _ (fun w hw => rPr_ok _ _ w ?_ ?_) ?_; (focus (refine hw.rdC ?_; assumption)); (focus (assumption)); rintro _ _ ⟨rfl, rfl⟩)))
                        all_goals (first | (refine E.OW.off rfl rfl rfl ?_) | (refine E.OW.pure rfl rfl rfl (E.PV.not rfl rfl) ?_))
                        all_goals (first | (refine E.OW.pure rfl rfl rfl (E.PV.pick_t rfl rfl rfl) ?_) | (refine E.OW.pure rfl rfl rfl (E.PV.pick_f rfl rfl rfl) ?_))
                        all_goals (refine E.OW.pure rfl rfl rfl (E.PV.pick_f rfl rfl rfl) ?_)
                        all_goals (
                          refine E.OW.nil ?_
                          refine E.then_n ?_
                          refine E.CW.cond rfl (fun hc => ?_) (fun hc => ?_)
                          · first | ((cases hc; done)) | (simp only [E.b0, E.b1, E.b2, E.b3, E.b4, E.b5, E.b6, E.b7, E.b8, E.b9, E.b10, E.b11, E.b12, E.b13, E.b14, E.b15, E.b16, E.b17, E.b18, E.b19, E.b20, reduceCtorEq] at hc)
                            all_goals (exfalso; (rcases hsp with h1 | h1 <;> (first | omega | (rw [h1] at hc; cases hc; done))))
                          · simp only [E.b0, E.b1, E.b2, E.b3, E.b4, E.b5, E.b6, E.b7, E.b8, E.b9, E.b10, E.b11, E.b12, E.b13, E.b14, E.b15, E.b16, E.b17, E.b18, E.b19, E.b20, reduceCtorEq] at hc
                            all_goals (
                              refine E.CW.skip ?_
                              refine E.blk_n ?_
                              refine E.then_n ?_
                              refine E.CW.region ?_
                              refine E.OW.pure rfl rfl rfl (E.PV.move rfl rfl) ?_
                              refine E.OW.pure rfl rfl rfl (E.PV.add_i64 rfl rfl rfl ?_) ?_; (focus (omega))
                              refine E.OW.pure rfl rfl rfl (E.PV.assign rfl rfl) ?_
                              refine E.OW.nil ?_
                              refine E.then_nf ?_
                              refine ⟨_, [(19, _)], [0, 0], _, ?_, by repeat (first | exact E.cov_nil | refine ⟨rfl, ?_⟩), rfl, k2 + 1, rfl, rfl, rfl, by omega⟩
                              omega)))
                    · simp only [E.b0, E.b1, E.b2, E.b3, E.b4, E.b5, E.b6, E.b7, E.b8, E.b9, E.b10, E.b11, E.b12, E.b13, E.b14, E.b15, E.b16, E.b17, E.b18, E.b19, E.b20, reduceCtorEq] at hc
                      all_goals (
                        refine E.CW.exit ?_
                        refine E.then_x ?_
                        refine E.then_x ?_
                        refine E.blk_eq ?_
                        refine E.then_n ?_
                        refine E.CW.seq ?_
                        refine E.CW.region ?_
                        refine E.OW.pure rfl rfl rfl (E.PV.move rfl rfl) ?_
                        refine E.OW.pure rfl rfl rfl (E.PV.move rfl rfl) ?_
                        all_goals (refine E.OW.put 187 (.bool true) (v := .bool true) rfl rfl ?_)
                        all_goals (refine E.OW.pure rfl rfl rfl (E.PV.move rfl rfl) ?_)
                        all_goals (refine E.OW.pure rfl rfl rfl (E.PV.move rfl rfl) ?_)
                        all_goals (refine E.OW.pure rfl rfl rfl (E.PV.len Try.underlying31 rfl rfl) ?_)
                        all_goals (refine E.OW.pure rfl rfl rfl (E.PV.eql rfl rfl rfl) ?_)
                        all_goals (refine E.OW.pure rfl rfl rfl (E.PV.pick_t rfl rfl rfl) ?_)
                        all_goals (refine E.OW.pure rfl rfl rfl (E.PV.assign rfl rfl) ?_)
                        all_goals (
                          refine E.OW.nil ?_
                          refine E.then_n ?_
                          refine E.CW.ret ?_
                          refine E.KR.one [] Try.results15 rfl rfl ?_
                          exact ⟨congrArg Value.bool (decide_eq_true (by rw [hn, show k = g.q.ts.length by rw [htn]; omega])), rfl⟩))))))
end Go.Proofs.Ytbdfljgnlendjaa
