/- Walks (printed by gen.py). -/
import Derived.Test.YtbdfljgnlendjaaG12
import Derived.Test.YtbdfljgnlendjaaCh
namespace Go.Proofs.Ytbdfljgnlendjaa
open Go Go.RowKit
set_option linter.unusedSimpArgs false
set_option linter.unusedVariables false

set_option maxRecDepth 100000 in
theorem ConfigSpots_ok (a b : Int) (A : Option Addr) (c : Nat) (l : List UInt8) (t : Int) (m : E.Tm) (u : Int) (o : E.Tm) (w0 : World) (hl : l.length ≤ 140737488355328) (hL : E.Rd w0 (E.Old w0) A (E.u8s l)) (hm : m.rd w0 (E.Old w0)) (hf : m.q.fit) (ho : o.rd w0 (E.Old w0)) (hof : o.q.fit) :
    Calls Try.prog 16 #[.agg #[.int .i64 a, .int .i64 b, .slice A l.length c], .int .i64 t, m.v, .int .i64 u, o.v] w0 (E.Post w0 (E.Old w0) fun v Hn => v = .bool true ∧ Hn = []) := by
  have hsl := Cf.spots_len m.q
  have hso := Cf.spots_len o.q
  refine E.calls_of (vs := [.agg #[.int .i64 a, .int .i64 b, .slice A l.length c], .int .i64 t, m.v, .int .i64 u, o.v]) (H := []) Try.func16 Try.ntmps16 rfl rfl (E.HA.start w0) ?_
  refine E.CW.seq ?_
  refine E.CW.region ?_
  refine E.OW.box rfl rfl rfl rfl rfl rfl (fun B1 => ?_)
  refine E.OW.box rfl rfl rfl rfl rfl rfl (fun B2 => ?_)
  refine E.OW.box rfl rfl rfl rfl rfl rfl (fun B3 => ?_)
  refine E.OW.pure rfl rfl rfl (E.PV.assign rfl rfl) ?_
  refine E.OW.nil ?_
  refine E.then_n ?_
  refine E.CW.seq ?_
  refine E.CW.region ?_
  (refine E.OW.call nm45 rfl rfl rfl rfl rfl rfl _ (fun w hw => alive_ok w) ?_; rintro _ _ ⟨rfl, rfl⟩)
  refine E.OW.pure rfl rfl rfl (E.PV.assign rfl rfl) ?_
  refine E.OW.nil ?_
  refine E.then_n ?_
  refine E.CW.seq ?_
  refine E.CW.seq ?_
  refine E.CW.region ?_
  refine E.OW.pure rfl rfl rfl (E.PV.loads (i := 2) is24 rfl rfl rfl rfl) ?_
  refine E.OW.pure rfl rfl rfl (E.PV.move rfl rfl) ?_
  refine E.OW.pure rfl rfl rfl (E.PV.loads (i := 1) is33 rfl rfl rfl rfl) ?_
  (refine E.OW.call nm29 rfl rfl rfl rfl rfl rfl _ (fun w hw => rCT_ok _ _ _ _ _ _ _ w ?_ ?_ ?_ ?_) ?_; (focus (assumption)); (focus (refine hw.rd ?_; assumption)); (focus (refine hw.rdm ?_; assumption)); (focus (assumption)); rintro _ _ ⟨rfl, rfl⟩)
  refine E.OW.pure rfl rfl rfl (E.PV.neq rfl rfl rfl) ?_
  refine E.OW.pure rfl rfl rfl (E.PV.move rfl rfl) ?_
  all_goals (refine E.OW.split 26 rfl (fun hc => ?_) (fun hc => ?_) <;> (try simp only [E.b0, E.b1, E.b2, E.b3, E.b4, E.b5, E.b6, E.b7, E.b8, E.b9, E.b10, E.b11, E.b12, E.b13, E.b14, E.b15, E.b16, E.b17, E.b18, E.b19, E.b20, reduceCtorEq] at hc) <;> (try (exfalso; first | assumption | contradiction | omega)))
  all_goals (first | (refine E.OW.off rfl rfl rfl ?_) | (refine E.OW.pure rfl rfl rfl (E.PV.loads (i := 1) is33 rfl rfl rfl rfl) ?_))
  all_goals (first | (refine E.OW.off rfl rfl rfl ?_) | ((refine E.OW.call nm25 rfl rfl rfl rfl rfl rfl _ (fun w hw => rAb_ok _ w ?_ ?_) ?_; (focus (refine hw.rdm ?_; assumption)); (focus (assumption)); rintro _ _ ⟨rfl, rfl⟩)))
  all_goals (first | (refine E.OW.pure rfl rfl rfl (E.PV.pick_t rfl rfl rfl) ?_) | (refine E.OW.pure rfl rfl rfl (E.PV.pick_f rfl rfl rfl) ?_))
  all_goals (
    refine E.OW.nil ?_
    refine E.then_n ?_
    refine E.CW.cond rfl (fun hc => ?_) (fun hc => ?_)
    · first | (simp only [E.b0, E.b1, E.b2, E.b3, E.b4, E.b5, E.b6, E.b7, E.b8, E.b9, E.b10, E.b11, E.b12, E.b13, E.b14, E.b15, E.b16, E.b17, E.b18, E.b19, E.b20, reduceCtorEq] at hc) | (skip)
      all_goals (
        refine E.CW.seq ?_
        refine E.CW.region ?_
        refine E.OW.pure rfl rfl rfl (E.PV.move rfl rfl) ?_
        refine E.OW.pure rfl rfl rfl (E.PV.assign rfl rfl) ?_
        refine E.OW.nil ?_
        refine E.then_n ?_
        refine E.CW.ret ?_
        refine E.then_ret ?_
        refine E.KR.one [] Try.results16 rfl rfl ?_
        exact ⟨rfl, rfl⟩)
    · first | ((cases hc; done)) | (skip)
      all_goals (
        refine E.CW.skip ?_
        refine E.then_n ?_
        refine E.CW.seq ?_
        obtain ⟨hv, ht3, hvt⟩ := Cf.ct_valid (a := a) (b := b) (l := l) (t := t) (m := m.q) (by assumption) (by assumption)
        have hct : Cf.checkTeam a b l t m.q = 0 := by assumption
        obtain ⟨hsm, hs3⟩ := Cf.valid_small hvt
        obtain ⟨hs4, hs5, hs6⟩ := id hsm
        refine E.CW.region ?_
        refine E.OW.pure rfl rfl rfl (E.PV.loads (i := 1) is33 rfl rfl rfl rfl) ?_
        (refine E.OW.call nm23 rfl rfl rfl rfl rfl rfl _ (fun w hw => Sp_ok m w ?_ ?_ ?_) ?_; (focus (refine hw.rdm ?_; assumption)); (focus (assumption)); (focus (omega)); rintro _ _ ⟨AS, cS, rfl, rfl⟩)
        refine E.OW.pure rfl rfl rfl (E.PV.assign rfl rfl) ?_
        refine E.OW.nil ?_
        refine E.then_n ?_
        refine E.CW.seq ?_
        refine E.CW.seq ?_
        refine E.CW.region ?_
        refine E.OW.pure rfl rfl rfl (E.PV.loads (i := 3) is24 rfl rfl rfl rfl) ?_
        refine E.OW.pure rfl rfl rfl (E.PV.move rfl rfl) ?_
        refine E.OW.pure rfl rfl rfl (E.PV.loads (i := 2) is33 rfl rfl rfl rfl) ?_
        (refine E.OW.call nm28 rfl rfl rfl rfl rfl rfl _ (fun w hw => CT_ok _ _ _ _ _ _ _ w ?_ ?_ ?_ ?_) ?_; (focus (assumption)); (focus (refine hw.rd ?_; assumption)); (focus (refine hw.rdm ?_; assumption)); (focus (assumption)); rintro _ _ ⟨rfl, rfl⟩)
        refine E.OW.pure rfl rfl rfl (E.PV.neq rfl rfl rfl) ?_
        refine E.OW.pure rfl rfl rfl (E.PV.move rfl rfl) ?_
        all_goals (refine E.OW.put 38 (.bool false) rfl (congrArg Value.bool ?_) ?_; (focus ((simp only [E.b0, E.b1, E.b2, E.b3, E.b4, E.b5, E.b6, E.b7, E.b8, E.b9, E.b10, E.b11, E.b12, E.b13, E.b14, E.b15, E.b16, E.b17, E.b18, E.b19, E.b20]; omega))))
        all_goals (refine E.OW.pure rfl rfl rfl (E.PV.move rfl rfl) ?_)
        all_goals (refine E.OW.pure rfl rfl rfl (E.PV.len Try.underlying31 rfl rfl) ?_)
        all_goals (refine E.OW.pure rfl rfl rfl (E.PV.lss rfl rfl rfl) ?_)
        all_goals (refine E.OW.pure rfl rfl rfl (E.PV.pick_f rfl rfl rfl) ?_)
        all_goals (refine E.OW.pure rfl rfl rfl (E.PV.move rfl rfl) ?_)
        all_goals (refine E.OW.put 43 (.bool false) rfl (congrArg Value.bool ?_) ?_; (focus ((simp only [E.b0, E.b1, E.b2, E.b3, E.b4, E.b5, E.b6, E.b7, E.b8, E.b9, E.b10, E.b11, E.b12, E.b13, E.b14, E.b15, E.b16, E.b17, E.b18, E.b19, E.b20]; omega))))
        all_goals (refine E.OW.pure rfl rfl rfl (E.PV.move rfl rfl) ?_)
        all_goals (refine E.OW.pure rfl rfl rfl (E.PV.len Try.underlying31 rfl rfl) ?_)
        all_goals (refine E.OW.pure rfl rfl rfl (E.PV.gtr rfl rfl rfl) ?_)
        all_goals (refine E.OW.pure rfl rfl rfl (E.PV.pick_f rfl rfl rfl) ?_)
        all_goals (refine E.OW.pure rfl rfl rfl (E.PV.move rfl rfl) ?_)
        all_goals (refine E.OW.put 48 (.bool false) rfl (congrArg Value.bool ?_) ?_; (focus ((simp only [E.b0, E.b1, E.b2, E.b3, E.b4, E.b5, E.b6, E.b7, E.b8, E.b9, E.b10, E.b11, E.b12, E.b13, E.b14, E.b15, E.b16, E.b17, E.b18, E.b19, E.b20]; omega))))
        all_goals (refine E.OW.pure rfl rfl rfl (E.PV.move rfl rfl) ?_)
        all_goals (refine E.OW.pure rfl rfl rfl (E.PV.len Try.underlying31 rfl rfl) ?_)
        all_goals (refine E.OW.pure rfl rfl rfl (E.PV.fieldAddr fa33_0 rfl rfl) ?_)
        all_goals (refine E.OW.pure rfl rfl rfl (E.PV.load (i := 2) na31 rfl rfl rfl rfl) ?_)
        all_goals (refine E.OW.pure rfl rfl rfl (E.PV.len Try.underlying31 rfl rfl) ?_)
        all_goals (refine E.OW.pure rfl rfl rfl (E.PV.fieldAddr fa33_1 rfl rfl) ?_)
        all_goals (refine E.OW.pure rfl rfl rfl (E.PV.load (i := 2) na31 rfl rfl rfl rfl) ?_)
        all_goals (refine E.OW.pure rfl rfl rfl (E.PV.len Try.underlying31 rfl rfl) ?_)
        all_goals (refine E.OW.pure rfl rfl rfl (E.PV.add_i64 rfl rfl rfl ?_) ?_; (focus (omega)))
        all_goals (refine E.OW.pure rfl rfl rfl (E.PV.fieldAddr fa33_2 rfl rfl) ?_)
        all_goals (refine E.OW.pure rfl rfl rfl (E.PV.load (i := 2) na31 rfl rfl rfl rfl) ?_)
        all_goals (refine E.OW.pure rfl rfl rfl (E.PV.len Try.underlying31 rfl rfl) ?_)
        all_goals (refine E.OW.pure rfl rfl rfl (E.PV.add_i64 rfl rfl rfl ?_) ?_; (focus (omega)))
        all_goals (refine E.OW.pure rfl rfl rfl (E.PV.neq rfl rfl rfl) ?_)
        all_goals (refine E.OW.pure rfl rfl rfl (E.PV.pick_f rfl rfl rfl) ?_)
        all_goals (
          refine E.OW.nil ?_
          refine E.then_n ?_
          refine E.CW.cond rfl (fun hc => ?_) (fun hc => ?_)
          · simp only [E.b0, E.b1, E.b2, E.b3, E.b4, E.b5, E.b6, E.b7, E.b8, E.b9, E.b10, E.b11, E.b12, E.b13, E.b14, E.b15, E.b16, E.b17, E.b18, E.b19, E.b20, reduceCtorEq] at hc
            all_goals (exfalso; omega)
          · simp only [E.b0, E.b1, E.b2, E.b3, E.b4, E.b5, E.b6, E.b7, E.b8, E.b9, E.b10, E.b11, E.b12, E.b13, E.b14, E.b15, E.b16, E.b17, E.b18, E.b19, E.b20, reduceCtorEq] at hc
            all_goals (
              refine E.CW.skip ?_
              refine E.then_n ?_
              refine E.CW.seq ?_
              refine E.CW.seq ?_
              refine E.CW.region ?_
              refine E.OW.pure rfl rfl rfl (E.PV.assign rfl rfl) ?_
              refine E.OW.nil ?_
              refine E.then_n ?_
              refine E.CW.block ?_
              refine E.CW.loopk [1, 3, 5, 9, 11, 12] 0 rfl rfl (fun mm mods Hm => ∃ i : Nat, mm = (Cf.spots m.q).length - i ∧ mods = [(13, .int .i64 i)] ∧ Hm = [] ∧ i ≤ (Cf.spots m.q).length) ((Cf.spots m.q).length) ?_ ?_
              · exact ⟨[(13, _)], (by repeat (first | exact E.cov_nil | refine ⟨rfl, ?_⟩)), 0, rfl, rfl, rfl, by omega⟩
              · rintro _ _ _ ⟨i, rfl, rfl, rfl, hi⟩
                refine E.CW.seq ?_
                refine E.CW.seq ?_
                refine E.CW.region ?_
                refine E.OW.pure rfl rfl rfl (E.PV.move rfl rfl) ?_
                refine E.OW.pure rfl rfl rfl (E.PV.move rfl rfl) ?_
                refine E.OW.pure rfl rfl rfl (E.PV.len Try.underlying31 rfl rfl) ?_
                refine E.OW.pure rfl rfl rfl (E.PV.lss rfl rfl rfl) ?_
                refine E.OW.nil ?_
                refine E.then_n ?_
                refine E.CW.cond rfl (fun hc => ?_) (fun hc => ?_)
                · simp only [E.b0, E.b1, E.b2, E.b3, E.b4, E.b5, E.b6, E.b7, E.b8, E.b9, E.b10, E.b11, E.b12, E.b13, E.b14, E.b15, E.b16, E.b17, E.b18, E.b19, E.b20, reduceCtorEq] at hc
                  all_goals (
                    refine E.CW.skip ?_
                    refine E.then_n ?_
                    refine E.CW.seq ?_
                    refine E.CW.block ?_
                    refine E.CW.seq ?_
                    refine E.CW.draw mixed (by kernel_rfl) ?_
                    refine E.QW.pure rfl rfl rfl (E.PV.loads (i := 3) is24 rfl rfl rfl rfl) ?_
                    refine E.QW.pure rfl rfl rfl (E.PV.move rfl rfl) ?_
                    refine E.QW.pure rfl rfl rfl (E.PV.move rfl rfl) ?_
                    refine E.QW.pure rfl rfl rfl (E.PV.indexAddr1 (E.rdr (i := 0) rfl) Try.underlying31 in3 rfl rfl rfl rfl ?_ ?_) ?_; (focus (first | (simp; done) | (simp; omega))); (focus (omega))
                    refine E.QW.pure rfl rfl rfl (E.PV.load_int (E.rdr (i := 0) rfl) na3 rfl rfl ?_) ?_; (focus (omega))
                    (refine E.QW.call nm52 rfl rfl rfl rfl rfl rfl _ (fun w hw => E.Post.val (Owner_ok _ _ _ _ l _ w ?_ ?_)) ?_; (focus (assumption)); (focus (refine hw.rd ?_; assumption)))
                    refine E.QW.pure rfl rfl rfl (E.PV.move rfl rfl) ?_
                    refine E.QW.pure rfl rfl rfl (E.PV.extract rfl rfl rfl) ?_
                    refine E.QW.pure rfl rfl rfl (E.PV.extract rfl rfl rfl) ?_
                    refine E.QW.pure rfl rfl rfl (E.PV.assign rfl rfl) ?_
                    refine E.QW.pure rfl rfl rfl (E.PV.assign rfl rfl) ?_
                    refine E.QW.nil ?_
                    refine E.then_n ?_
                    refine E.CW.seq ?_
                    refine E.CW.seq ?_
                    have hmi : (Cf.spots m.q).getD i 0 ∈ (Cf.spots m.q) := Fl.getD_mem' (by omega)
                    have how := (Cf.own_at hv ht3).1 (Cf.valid_at hvt hmi)
                    refine E.CW.put 14 (.int .i64 t) rfl (congrArg (fun x : Int × Int => Value.int .i64 x.1) how) ?_
                    refine E.CW.put 15 (.int .i64 0) rfl (congrArg (fun x : Int × Int => Value.int .i64 x.2) how) ?_
                    refine E.CW.region ?_
                    refine E.OW.pure rfl rfl rfl (E.PV.move rfl rfl) ?_
                    refine E.OW.pure rfl rfl rfl (E.PV.neq rfl rfl rfl) ?_
                    refine E.OW.pure rfl rfl rfl (E.PV.move rfl rfl) ?_
                    all_goals (refine E.OW.put 81 (.bool false) (v := .bool false) rfl rfl ?_)
                    all_goals (refine E.OW.pure rfl rfl rfl (E.PV.move rfl rfl) ?_)
                    all_goals (refine E.OW.pure rfl rfl rfl (E.PV.move rfl rfl) ?_)
                    all_goals (refine E.OW.pure rfl rfl rfl (E.PV.neq rfl rfl rfl) ?_)
                    all_goals (refine E.OW.pure rfl rfl rfl (E.PV.pick_f rfl rfl rfl) ?_)
                    all_goals (
                      refine E.OW.nil ?_
                      refine E.then_n ?_
                      refine E.CW.cond rfl (fun hc => ?_) (fun hc => ?_)
                      · simp only [E.b0, E.b1, E.b2, E.b3, E.b4, E.b5, E.b6, E.b7, E.b8, E.b9, E.b10, E.b11, E.b12, E.b13, E.b14, E.b15, E.b16, E.b17, E.b18, E.b19, E.b20, reduceCtorEq] at hc
                        all_goals (exfalso; contradiction)
                      · simp only [E.b0, E.b1, E.b2, E.b3, E.b4, E.b5, E.b6, E.b7, E.b8, E.b9, E.b10, E.b11, E.b12, E.b13, E.b14, E.b15, E.b16, E.b17, E.b18, E.b19, E.b20, reduceCtorEq] at hc
                        all_goals (
                          refine E.CW.skip ?_
                          refine E.then_n ?_
                          refine E.CW.seq ?_
                          refine E.CW.region ?_
                          refine E.OW.pure rfl rfl rfl (E.PV.assign rfl rfl) ?_
                          refine E.OW.nil ?_
                          refine E.then_n ?_
                          refine E.CW.block ?_
                          refine E.CW.loopk [1, 3, 5, 9, 11, 12, 13] 0 rfl rfl (fun mm mods Hm => ∃ j : Nat, mm = i - j ∧ mods = [(16, .int .i64 j)] ∧ Hm = [] ∧ j ≤ i) (i) ?_ ?_
                          · exact ⟨[(16, _)], (by repeat (first | exact E.cov_nil | refine ⟨rfl, ?_⟩)), 0, rfl, rfl, rfl, by omega⟩
                          · rintro _ _ _ ⟨j, rfl, rfl, rfl, hj⟩
                            refine E.CW.seq ?_
                            refine E.CW.seq ?_
                            refine E.CW.region ?_
                            refine E.OW.pure rfl rfl rfl (E.PV.move rfl rfl) ?_
                            refine E.OW.pure rfl rfl rfl (E.PV.move rfl rfl) ?_
                            refine E.OW.pure rfl rfl rfl (E.PV.lss rfl rfl rfl) ?_
                            refine E.OW.nil ?_
                            refine E.then_n ?_
                            refine E.CW.cond rfl (fun hc => ?_) (fun hc => ?_)
                            · simp only [E.b0, E.b1, E.b2, E.b3, E.b4, E.b5, E.b6, E.b7, E.b8, E.b9, E.b10, E.b11, E.b12, E.b13, E.b14, E.b15, E.b16, E.b17, E.b18, E.b19, E.b20, reduceCtorEq] at hc
                              all_goals (
                                refine E.CW.skip ?_
                                refine E.then_n ?_
                                refine E.CW.seq ?_
                                refine E.CW.block ?_
                                refine E.CW.seq ?_
                                have hnd := Cf.nodup_at (Cf.valid_nodup hvt) (i := i) (j := j) (by omega) (by omega)
                                refine E.CW.draw mixed (by kernel_rfl) ?_
                                refine E.QW.pure rfl rfl rfl (E.PV.move rfl rfl) ?_
                                refine E.QW.pure rfl rfl rfl (E.PV.move rfl rfl) ?_
                                refine E.QW.pure rfl rfl rfl (E.PV.indexAddr1 (E.rdr (i := 0) rfl) Try.underlying31 in3 rfl rfl rfl rfl ?_ ?_) ?_; (focus (first | (simp; done) | (simp; omega))); (focus (omega))
                                refine E.QW.pure rfl rfl rfl (E.PV.load_int (E.rdr (i := 0) rfl) na3 rfl rfl ?_) ?_; (focus (omega))
                                refine E.QW.pure rfl rfl rfl (E.PV.move rfl rfl) ?_
                                refine E.QW.pure rfl rfl rfl (E.PV.move rfl rfl) ?_
                                refine E.QW.pure rfl rfl rfl (E.PV.indexAddr1 (E.rdr (i := 0) rfl) Try.underlying31 in3 rfl rfl rfl rfl ?_ ?_) ?_; (focus (first | (simp; done) | (simp; omega))); (focus (omega))
                                refine E.QW.pure rfl rfl rfl (E.PV.load_int (E.rdr (i := 0) rfl) na3 rfl rfl ?_) ?_; (focus (omega))
                                refine E.QW.pure rfl rfl rfl (E.PV.eql rfl rfl rfl) ?_
                                refine E.QW.nil ?_
                                refine E.then_n ?_
                                refine E.CW.cond rfl (fun hc => ?_) (fun hc => ?_)
                                · simp only [E.b0, E.b1, E.b2, E.b3, E.b4, E.b5, E.b6, E.b7, E.b8, E.b9, E.b10, E.b11, E.b12, E.b13, E.b14, E.b15, E.b16, E.b17, E.b18, E.b19, E.b20, reduceCtorEq] at hc
                                  all_goals (exfalso; contradiction)
                                · simp only [E.b0, E.b1, E.b2, E.b3, E.b4, E.b5, E.b6, E.b7, E.b8, E.b9, E.b10, E.b11, E.b12, E.b13, E.b14, E.b15, E.b16, E.b17, E.b18, E.b19, E.b20, reduceCtorEq] at hc
                                  all_goals (
                                    refine E.CW.skip ?_
                                    refine E.blk_n ?_
                                    refine E.then_n ?_
                                    refine E.CW.region ?_
                                    refine E.OW.pure rfl rfl rfl (E.PV.move rfl rfl) ?_
                                    refine E.OW.pure rfl rfl rfl (E.PV.add_i64 rfl rfl rfl ?_) ?_; (focus (omega))
                                    refine E.OW.pure rfl rfl rfl (E.PV.assign rfl rfl) ?_
                                    refine E.OW.nil ?_
                                    refine E.then_nf ?_
                                    refine ⟨_, [(16, _)], [0, 0, 0, 0], _, ?_, by repeat (first | exact E.cov_nil | refine ⟨rfl, ?_⟩), rfl, j + 1, rfl, rfl, rfl, by omega⟩
                                    omega))
                            · simp only [E.b0, E.b1, E.b2, E.b3, E.b4, E.b5, E.b6, E.b7, E.b8, E.b9, E.b10, E.b11, E.b12, E.b13, E.b14, E.b15, E.b16, E.b17, E.b18, E.b19, E.b20, reduceCtorEq] at hc
                              all_goals (
                                refine E.CW.exit ?_
                                refine E.then_x ?_
                                refine E.then_x ?_
                                refine E.blk_eq ?_
                                refine E.blk_n ?_
                                refine E.then_n ?_
                                refine E.CW.region ?_
                                refine E.OW.pure rfl rfl rfl (E.PV.move rfl rfl) ?_
                                refine E.OW.pure rfl rfl rfl (E.PV.add_i64 rfl rfl rfl ?_) ?_; (focus (omega))
                                refine E.OW.pure rfl rfl rfl (E.PV.assign rfl rfl) ?_
                                refine E.OW.nil ?_
                                refine E.then_nf ?_
                                refine ⟨_, [(13, _)], [0, 0, 0, 0], _, ?_, by repeat (first | exact E.cov_nil | refine ⟨rfl, ?_⟩), rfl, i + 1, rfl, rfl, rfl, by omega⟩
                                omega))))
                · simp only [E.b0, E.b1, E.b2, E.b3, E.b4, E.b5, E.b6, E.b7, E.b8, E.b9, E.b10, E.b11, E.b12, E.b13, E.b14, E.b15, E.b16, E.b17, E.b18, E.b19, E.b20, reduceCtorEq] at hc
                  all_goals (
                    refine E.CW.exit ?_
                    refine E.then_x ?_
                    refine E.then_x ?_
                    refine E.blk_eq ?_
                    refine E.then_n ?_
                    refine E.CW.seq ?_
                    refine E.CW.seq ?_
                    refine E.CW.region ?_
                    refine E.OW.pure rfl rfl rfl (E.PV.move rfl rfl) ?_
                    refine E.OW.pure rfl rfl rfl (E.PV.move rfl rfl) ?_
                    refine E.OW.pure rfl rfl rfl (E.PV.eql rfl rfl rfl) ?_
                    refine E.OW.pure rfl rfl rfl (E.PV.move rfl rfl) ?_
                    all_goals (refine E.OW.split 103 rfl (fun hc => ?_) (fun hc => ?_) <;> (try simp only [E.b0, E.b1, E.b2, E.b3, E.b4, E.b5, E.b6, E.b7, E.b8, E.b9, E.b10, E.b11, E.b12, E.b13, E.b14, E.b15, E.b16, E.b17, E.b18, E.b19, E.b20, reduceCtorEq] at hc) <;> (try (exfalso; first | assumption | contradiction | omega)))
                    all_goals (first | (refine E.OW.off rfl rfl rfl ?_) | (refine E.OW.pure rfl rfl rfl (E.PV.loads (i := 3) is24 rfl rfl rfl rfl) ?_))
                    all_goals (first | (refine E.OW.off rfl rfl rfl ?_) | (refine E.OW.pure rfl rfl rfl (E.PV.move rfl rfl) ?_))
                    all_goals (first | (refine E.OW.off rfl rfl rfl ?_) | (refine E.OW.pure rfl rfl rfl (E.PV.loads (i := 1) is33 rfl rfl rfl rfl) ?_))
                    all_goals (first | (refine E.OW.off rfl rfl rfl ?_) | ((refine E.OW.call nm29 rfl rfl rfl rfl rfl rfl _ (fun w hw => rCT_ok _ _ _ _ _ _ _ w ?_ ?_ ?_ ?_) ?_; (focus (assumption)); (focus (refine hw.rd ?_; assumption)); (focus (refine hw.rdm ?_; assumption)); (focus (assumption)); rintro _ _ ⟨rfl, rfl⟩)))
                    all_goals (first | (refine E.OW.off rfl rfl rfl ?_) | (refine E.OW.pure rfl rfl rfl (E.PV.neq rfl rfl rfl) ?_))
                    all_goals (first | (refine E.OW.pure rfl rfl rfl (E.PV.pick_t rfl rfl rfl) ?_) | (refine E.OW.pure rfl rfl rfl (E.PV.pick_f rfl rfl rfl) ?_))
                    all_goals (
                      refine E.OW.nil ?_
                      refine E.then_n ?_
                      refine E.CW.cond rfl (fun hc => ?_) (fun hc => ?_)
                      · simp only [E.b0, E.b1, E.b2, E.b3, E.b4, E.b5, E.b6, E.b7, E.b8, E.b9, E.b10, E.b11, E.b12, E.b13, E.b14, E.b15, E.b16, E.b17, E.b18, E.b19, E.b20, reduceCtorEq] at hc
                        all_goals (
                          refine E.CW.seq ?_
                          refine E.CW.region ?_
                          refine E.OW.pure rfl rfl rfl (E.PV.move rfl rfl) ?_
                          refine E.OW.pure rfl rfl rfl (E.PV.assign rfl rfl) ?_
                          refine E.OW.nil ?_
                          refine E.then_n ?_
                          refine E.CW.ret ?_
                          refine E.then_ret ?_
                          refine E.KR.one [] Try.results16 rfl rfl ?_
                          exact ⟨rfl, rfl⟩)
                      · first | ((cases hc; done)) | (simp only [E.b0, E.b1, E.b2, E.b3, E.b4, E.b5, E.b6, E.b7, E.b8, E.b9, E.b10, E.b11, E.b12, E.b13, E.b14, E.b15, E.b16, E.b17, E.b18, E.b19, E.b20, reduceCtorEq] at hc)
                        all_goals (
                          refine E.CW.skip ?_
                          refine E.then_n ?_
                          refine E.CW.seq ?_
                          obtain ⟨hs7, hs8, hs9⟩ := Cf.ct_small (a := a) (b := b) (l := l) (t := u) (m := o.q) (by assumption)
                          have hcu : Cf.checkTeam a b l u o.q = 0 := by assumption
                          have htu : ¬ t = u := by assumption
                          refine E.CW.region ?_
                          refine E.OW.pure rfl rfl rfl (E.PV.loads (i := 1) is33 rfl rfl rfl rfl) ?_
                          (refine E.OW.call nm23 rfl rfl rfl rfl rfl rfl _ (fun w hw => Sp_ok o w ?_ ?_ ?_) ?_; (focus (refine hw.rdm ?_; assumption)); (focus (assumption)); (focus (omega)); rintro _ _ ⟨AO, cO, rfl, rfl⟩)
                          refine E.OW.pure rfl rfl rfl (E.PV.assign rfl rfl) ?_
                          refine E.OW.nil ?_
                          refine E.then_n ?_
                          refine E.CW.seq ?_
                          refine E.CW.seq ?_
                          refine E.CW.region ?_
                          refine E.OW.pure rfl rfl rfl (E.PV.assign rfl rfl) ?_
                          refine E.OW.nil ?_
                          refine E.then_n ?_
                          refine E.CW.block ?_
                          refine E.CW.loopk [11, 12, 17] 0 rfl rfl (fun mm mods Hm => ∃ i2 : Nat, mm = (Cf.spots m.q).length - i2 ∧ mods = [(18, .int .i64 i2)] ∧ Hm = [] ∧ i2 ≤ (Cf.spots m.q).length) ((Cf.spots m.q).length) ?_ ?_
                          · exact ⟨[(18, _)], (by repeat (first | exact E.cov_nil | refine ⟨rfl, ?_⟩)), 0, rfl, rfl, rfl, by omega⟩
                          · rintro _ _ _ ⟨i2, rfl, rfl, rfl, hi2⟩
                            refine E.CW.seq ?_
                            refine E.CW.seq ?_
                            refine E.CW.region ?_
                            refine E.OW.pure rfl rfl rfl (E.PV.move rfl rfl) ?_
                            refine E.OW.pure rfl rfl rfl (E.PV.move rfl rfl) ?_
                            refine E.OW.pure rfl rfl rfl (E.PV.len Try.underlying31 rfl rfl) ?_
                            refine E.OW.pure rfl rfl rfl (E.PV.lss rfl rfl rfl) ?_
                            refine E.OW.nil ?_
                            refine E.then_n ?_
                            refine E.CW.cond rfl (fun hc => ?_) (fun hc => ?_)
                            · simp only [E.b0, E.b1, E.b2, E.b3, E.b4, E.b5, E.b6, E.b7, E.b8, E.b9, E.b10, E.b11, E.b12, E.b13, E.b14, E.b15, E.b16, E.b17, E.b18, E.b19, E.b20, reduceCtorEq] at hc
                              all_goals (
                                refine E.CW.skip ?_
                                refine E.then_n ?_
                                refine E.CW.seq ?_
                                refine E.CW.block ?_
                                refine E.CW.seq ?_
                                refine E.CW.region ?_
                                refine E.OW.pure rfl rfl rfl (E.PV.assign rfl rfl) ?_
                                refine E.OW.nil ?_
                                refine E.then_n ?_
                                refine E.CW.block ?_
                                refine E.CW.loopk [11, 12, 17, 18] 0 rfl rfl (fun mm mods Hm => ∃ k : Nat, mm = (Cf.spots o.q).length - k ∧ mods = [(19, .int .i64 k)] ∧ Hm = [] ∧ k ≤ (Cf.spots o.q).length) ((Cf.spots o.q).length) ?_ ?_
                                · exact ⟨[(19, _)], (by repeat (first | exact E.cov_nil | refine ⟨rfl, ?_⟩)), 0, rfl, rfl, rfl, by omega⟩
                                · rintro _ _ _ ⟨k, rfl, rfl, rfl, hk⟩
                                  refine E.CW.seq ?_
                                  refine E.CW.seq ?_
                                  refine E.CW.region ?_
                                  refine E.OW.pure rfl rfl rfl (E.PV.move rfl rfl) ?_
                                  refine E.OW.pure rfl rfl rfl (E.PV.move rfl rfl) ?_
                                  refine E.OW.pure rfl rfl rfl (E.PV.len Try.underlying31 rfl rfl) ?_
                                  refine E.OW.pure rfl rfl rfl (E.PV.lss rfl rfl rfl) ?_
                                  refine E.OW.nil ?_
                                  refine E.then_n ?_
                                  refine E.CW.cond rfl (fun hc => ?_) (fun hc => ?_)
                                  · simp only [E.b0, E.b1, E.b2, E.b3, E.b4, E.b5, E.b6, E.b7, E.b8, E.b9, E.b10, E.b11, E.b12, E.b13, E.b14, E.b15, E.b16, E.b17, E.b18, E.b19, E.b20, reduceCtorEq] at hc
                                    all_goals (
                                      refine E.CW.skip ?_
                                      refine E.then_n ?_
                                      refine E.CW.seq ?_
                                      refine E.CW.block ?_
                                      refine E.CW.seq ?_
                                      have hmi : (Cf.spots m.q).getD i2 0 ∈ (Cf.spots m.q) := Fl.getD_mem' (by omega)
                                      have hmk : (Cf.spots o.q).getD k 0 ∈ (Cf.spots o.q) := Fl.getD_mem' (by omega)
                                      have hne : ¬ (Cf.spots m.q).getD i2 0 = (Cf.spots o.q).getD k 0 := fun e => htu (Cf.own_two (Cf.valid_at hvt hmi) (e ▸ Cf.ct_own' hcu hmk))
                                      refine E.CW.draw mixed (by kernel_rfl) ?_
                                      refine E.QW.pure rfl rfl rfl (E.PV.move rfl rfl) ?_
                                      refine E.QW.pure rfl rfl rfl (E.PV.move rfl rfl) ?_
                                      refine E.QW.pure rfl rfl rfl (E.PV.indexAddr1 (E.rdr (i := 1) rfl) Try.underlying31 in3 rfl rfl rfl rfl ?_ ?_) ?_; (focus (first | (simp; done) | (simp; omega))); (focus (omega))
                                      refine E.QW.pure rfl rfl rfl (E.PV.load_int (E.rdr (i := 1) rfl) na3 rfl rfl ?_) ?_; (focus (omega))
                                      refine E.QW.pure rfl rfl rfl (E.PV.move rfl rfl) ?_
                                      refine E.QW.pure rfl rfl rfl (E.PV.move rfl rfl) ?_
                                      refine E.QW.pure rfl rfl rfl (E.PV.indexAddr1 (E.rdr (i := 0) rfl) Try.underlying31 in3 rfl rfl rfl rfl ?_ ?_) ?_; (focus (first | (simp; done) | (simp; omega))); (focus (omega))
                                      refine E.QW.pure rfl rfl rfl (E.PV.load_int (E.rdr (i := 0) rfl) na3 rfl rfl ?_) ?_; (focus (omega))
                                      refine E.QW.pure rfl rfl rfl (E.PV.eql rfl rfl rfl) ?_
                                      refine E.QW.nil ?_
                                      refine E.then_n ?_
                                      refine E.CW.cond rfl (fun hc => ?_) (fun hc => ?_)
                                      · simp only [E.b0, E.b1, E.b2, E.b3, E.b4, E.b5, E.b6, E.b7, E.b8, E.b9, E.b10, E.b11, E.b12, E.b13, E.b14, E.b15, E.b16, E.b17, E.b18, E.b19, E.b20, reduceCtorEq] at hc
                                        all_goals (exfalso; contradiction)
                                      · simp only [E.b0, E.b1, E.b2, E.b3, E.b4, E.b5, E.b6, E.b7, E.b8, E.b9, E.b10, E.b11, E.b12, E.b13, E.b14, E.b15, E.b16, E.b17, E.b18, E.b19, E.b20, reduceCtorEq] at hc
                                        all_goals (
                                          refine E.CW.skip ?_
                                          refine E.blk_n ?_
                                          refine E.then_n ?_
                                          refine E.CW.region ?_
                                          refine E.OW.pure rfl rfl rfl (E.PV.move rfl rfl) ?_
                                          refine E.OW.pure rfl rfl rfl (E.PV.add_i64 rfl rfl rfl ?_) ?_; (focus (omega))
                                          refine E.OW.pure rfl rfl rfl (E.PV.assign rfl rfl) ?_
                                          refine E.OW.nil ?_
                                          refine E.then_nf ?_
                                          refine ⟨_, [(19, _)], [0, 0, 0, 0, 0], _, ?_, by repeat (first | exact E.cov_nil | refine ⟨rfl, ?_⟩), rfl, k + 1, rfl, rfl, rfl, by omega⟩
                                          omega))
                                  · simp only [E.b0, E.b1, E.b2, E.b3, E.b4, E.b5, E.b6, E.b7, E.b8, E.b9, E.b10, E.b11, E.b12, E.b13, E.b14, E.b15, E.b16, E.b17, E.b18, E.b19, E.b20, reduceCtorEq] at hc
                                    all_goals (
                                      refine E.CW.exit ?_
                                      refine E.then_x ?_
                                      refine E.then_x ?_
                                      refine E.blk_eq ?_
                                      refine E.blk_n ?_
                                      refine E.then_n ?_
                                      refine E.CW.region ?_
                                      refine E.OW.pure rfl rfl rfl (E.PV.move rfl rfl) ?_
                                      refine E.OW.pure rfl rfl rfl (E.PV.add_i64 rfl rfl rfl ?_) ?_; (focus (omega))
                                      refine E.OW.pure rfl rfl rfl (E.PV.assign rfl rfl) ?_
                                      refine E.OW.nil ?_
                                      refine E.then_nf ?_
                                      refine ⟨_, [(18, _)], [0, 0, 0, 0, 0], _, ?_, by repeat (first | exact E.cov_nil | refine ⟨rfl, ?_⟩), rfl, i2 + 1, rfl, rfl, rfl, by omega⟩
                                      omega))
                            · simp only [E.b0, E.b1, E.b2, E.b3, E.b4, E.b5, E.b6, E.b7, E.b8, E.b9, E.b10, E.b11, E.b12, E.b13, E.b14, E.b15, E.b16, E.b17, E.b18, E.b19, E.b20, reduceCtorEq] at hc
                              all_goals (
                                refine E.CW.exit ?_
                                refine E.then_x ?_
                                refine E.then_x ?_
                                refine E.blk_eq ?_
                                refine E.then_n ?_
                                refine E.CW.seq ?_
                                refine E.CW.region ?_
                                refine E.OW.pure rfl rfl rfl (E.PV.move rfl rfl) ?_
                                refine E.OW.pure rfl rfl rfl (E.PV.assign rfl rfl) ?_
                                refine E.OW.nil ?_
                                refine E.then_n ?_
                                refine E.CW.ret ?_
                                refine E.KR.one [] Try.results16 rfl rfl ?_
                                exact ⟨rfl, rfl⟩))))))))
end Go.Proofs.Ytbdfljgnlendjaa
