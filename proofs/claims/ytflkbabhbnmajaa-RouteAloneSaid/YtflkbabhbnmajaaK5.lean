/- Part 5 of the texts behind the laws RouteAlone, RouteFar, RouteFirst, RouteLongest, RouteShortest, RouteSpreads: the logic, plain laws and walks that they need, for any input that these speak of. -/
import Derived.Laws.StructEq
import Derived.Test.YtflkbabhbnmajaaK4
/- Walks (printed by gen.py). -/
namespace Go.Proofs.Ytflkbabhbnmajaa
open Go Go.RowKit
set_option linter.unusedSimpArgs false
set_option linter.unusedVariables false

set_option maxRecDepth 100000 in
theorem Wk_ok (g : E.Cfg) (t a b tick : Int) (A : Option Addr) (c : Nat) (l : List Int) (w0 : World) (hg : g.rd w0 (E.Old w0)) (hgf : g.q.fit) (ht : 0 ≤ tick ∧ tick < 18446744073709551616) (hX : E.Rd w0 (E.Old w0) A (E.ints l)) (hlc : l.length ≤ c) (hll : l.length * 8 ≤ 140737488351232) :
    Calls Try.prog 20 #[g.v, .int .i64 t, .agg #[.int .i64 a, .int .i64 b], .int .u64 tick, .slice A l.length c] w0 (E.Post w0 (E.Old w0) fun v Hn => v = .tuple #[.bool (Rt.walkR g.q t a b tick l).1, .int .i64 (Rt.walkR g.q t a b tick l).2] ∧ Hn = []) := by
  obtain ⟨hX1, hX2, hX3, hX4⟩ := id hg
  have hgl := E.Cfg.fit_len hgf
  have hT := hX.tail hlc
  have htl : l.tail.length = l.length - 1 := List.length_tail
  refine E.calls_of (vs := [g.v, .int .i64 t, .agg #[.int .i64 a, .int .i64 b], .int .u64 tick, .slice A l.length c]) (H := []) Try.func20 Try.ntmps20 rfl rfl (E.HA.start w0) ?_
  refine E.CW.seq ?_
  refine E.CW.region ?_
  refine E.OW.box rfl rfl rfl rfl rfl rfl (fun B1 => ?_)
  refine E.OW.box rfl rfl rfl rfl rfl rfl (fun B2 => ?_)
  refine E.OW.pure rfl rfl rfl (E.PV.assign rfl rfl) ?_
  refine E.OW.pure rfl rfl rfl (E.PV.assign rfl rfl) ?_
  refine E.OW.nil ?_
  refine E.then_n ?_
  refine E.CW.seq ?_
  refine E.CW.seq ?_
  refine E.CW.region ?_
  refine E.OW.pure rfl rfl rfl (E.PV.loads (i := 1) is28 rfl rfl rfl rfl) ?_
  refine E.OW.pure rfl rfl rfl (E.PV.move rfl rfl) ?_
  refine E.OW.pure rfl rfl rfl (E.PV.loads (i := 0) is30 rfl rfl rfl rfl) ?_
  refine E.OW.pure rfl rfl rfl (E.PV.move rfl rfl) ?_
  (refine E.OW.call nm58 rfl rfl rfl rfl rfl rfl _ (fun w hw => Le_ok g t a b tick w ?_ ?_ ?_) ?_; (focus (refine hw.rdC ?_; assumption)); (focus (assumption)); (focus (assumption)); rintro _ _ ⟨rfl, rfl⟩)
  refine E.OW.pure rfl rfl rfl (E.PV.assign rfl rfl) ?_
  refine E.OW.nil ?_
  refine E.then_n ?_
  refine E.CW.seq ?_
  refine E.CW.region ?_
  refine E.OW.pure rfl rfl rfl (E.PV.move rfl rfl) ?_
  refine E.OW.pure rfl rfl rfl (E.PV.neq rfl rfl rfl) ?_
  refine E.OW.nil ?_
  refine E.then_n ?_
  refine E.CW.cond rfl (fun hc => ?_) (fun hc => ?_)
  · simp only [E.b0, E.b1, E.b2, E.b3, E.b4, E.b5, E.b6, E.b7, E.b8, E.b9, E.b10, E.b11, E.b12, E.b13, E.b14, E.b15, E.b16, E.b17, E.b18, E.b19, E.b20, reduceCtorEq] at hc
    all_goals (
      refine E.CW.seq ?_
      refine E.CW.region ?_
      refine E.OW.pure rfl rfl rfl (E.PV.move rfl rfl) ?_
      refine E.OW.pure rfl rfl rfl (E.PV.assign rfl rfl) ?_
      refine E.OW.pure rfl rfl rfl (E.PV.assign rfl rfl) ?_
      refine E.OW.nil ?_
      refine E.then_n ?_
      refine E.CW.ret ?_
      refine E.then_ret ?_
      refine E.KR.two [] Try.results20 rfl rfl rfl ?_
      exact ⟨by rw [Rt.walk_err (by assumption)], rfl⟩)
  · simp only [E.b0, E.b1, E.b2, E.b3, E.b4, E.b5, E.b6, E.b7, E.b8, E.b9, E.b10, E.b11, E.b12, E.b13, E.b14, E.b15, E.b16, E.b17, E.b18, E.b19, E.b20, reduceCtorEq] at hc
    all_goals (
      refine E.CW.skip ?_
      refine E.then_n ?_
      refine E.CW.seq ?_
      refine E.CW.seq ?_
      obtain ⟨hL, hlk⟩ := Rt.leg_of (show Rt.legE g.q t a b tick = 0 by assumption)
      refine E.CW.region ?_
      refine E.OW.pure rfl rfl rfl (E.PV.move rfl rfl) ?_
      refine E.OW.pure rfl rfl rfl (E.PV.len Try.underlying31 rfl rfl) ?_
      refine E.OW.pure rfl rfl rfl (E.PV.gtr rfl rfl rfl) ?_
      refine E.OW.nil ?_
      refine E.then_n ?_
      refine E.CW.cond rfl (fun hc => ?_) (fun hc => ?_)
      · simp only [E.b0, E.b1, E.b2, E.b3, E.b4, E.b5, E.b6, E.b7, E.b8, E.b9, E.b10, E.b11, E.b12, E.b13, E.b14, E.b15, E.b16, E.b17, E.b18, E.b19, E.b20, reduceCtorEq] at hc
        all_goals (
          refine E.CW.seq ?_
          refine E.CW.region ?_
          refine E.OW.pure rfl rfl rfl (E.PV.assign rfl rfl) ?_
          refine E.OW.pure rfl rfl rfl (E.PV.assign rfl rfl) ?_
          refine E.OW.nil ?_
          refine E.then_n ?_
          refine E.CW.ret ?_
          refine E.then_ret ?_
          refine E.KR.two [] Try.results20 rfl rfl rfl ?_
          exact ⟨by rw [Rt.walk_many (by assumption) (by omega)], rfl⟩)
      · simp only [E.b0, E.b1, E.b2, E.b3, E.b4, E.b5, E.b6, E.b7, E.b8, E.b9, E.b10, E.b11, E.b12, E.b13, E.b14, E.b15, E.b16, E.b17, E.b18, E.b19, E.b20, reduceCtorEq] at hc
        all_goals (
          refine E.CW.skip ?_
          refine E.then_n ?_
          refine E.CW.seq ?_
          refine E.CW.seq ?_
          refine E.CW.draw mixed (by kernel_rfl) ?_
          refine E.QW.pure rfl rfl rfl (E.PV.move rfl rfl) ?_
          refine E.QW.pure rfl rfl rfl (E.PV.len Try.underlying31 rfl rfl) ?_
          refine E.QW.pure rfl rfl rfl (E.PV.eql rfl rfl rfl) ?_
          refine E.QW.pure rfl rfl rfl (E.PV.move rfl rfl) ?_
          all_goals (refine E.QW.split 33 rfl (fun hc => ?_) (fun hc => ?_) <;> (try simp only [E.b0, E.b1, E.b2, E.b3, E.b4, E.b5, E.b6, E.b7, E.b8, E.b9, E.b10, E.b11, E.b12, E.b13, E.b14, E.b15, E.b16, E.b17, E.b18, E.b19, E.b20, reduceCtorEq] at hc) <;> (try (exfalso; first | assumption | contradiction | omega)))
          all_goals (first | (refine E.QW.off rfl rfl rfl ?_) | (refine E.QW.pure rfl rfl rfl (E.PV.move rfl rfl) ?_))
          all_goals (first | (refine E.QW.off rfl rfl rfl ?_) | (refine E.QW.pure rfl rfl rfl (E.PV.indexAddr1 (E.rdc hX) Try.underlying31 in3 rfl rfl rfl (E.tn ?_) ?_ ?_) ?_; (focus (omega)); (focus (first | (simp; done) | (simp; omega))); (focus (omega))))
          all_goals (first | (refine E.QW.off rfl rfl rfl ?_) | (refine E.QW.pure rfl rfl rfl (E.PV.load_int (E.rdc hX) na3 rfl rfl ?_) ?_; (focus (omega))))
          all_goals (first | (refine E.QW.off rfl rfl rfl ?_) | (refine E.QW.pure rfl rfl rfl (E.PV.fieldAddr fa30_0 rfl rfl) ?_))
          all_goals (first | (refine E.QW.off rfl rfl rfl ?_) | (refine E.QW.pure rfl rfl rfl (E.PV.load (i := 0) na3 rfl rfl rfl rfl) ?_))
          all_goals (first | (refine E.QW.off rfl rfl rfl ?_) | (refine E.QW.pure rfl rfl rfl (E.PV.neq rfl rfl rfl) ?_))
          all_goals (first | (refine E.QW.pure rfl rfl rfl (E.PV.pick_t rfl rfl rfl) ?_) | (refine E.QW.pure rfl rfl rfl (E.PV.pick_f rfl rfl rfl) ?_))
          all_goals (refine E.QW.pure rfl rfl rfl (E.PV.move rfl rfl) ?_)
          all_goals (first | (refine E.QW.put 41 (.bool true) (v := .bool true) rfl rfl ?_) | (refine E.QW.split 41 rfl (fun hc => ?_) (fun hc => ?_) <;> (try simp only [E.b0, E.b1, E.b2, E.b3, E.b4, E.b5, E.b6, E.b7, E.b8, E.b9, E.b10, E.b11, E.b12, E.b13, E.b14, E.b15, E.b16, E.b17, E.b18, E.b19, E.b20, reduceCtorEq] at hc) <;> (try (exfalso; first | assumption | contradiction | omega))))
          all_goals (first | (refine E.QW.off rfl rfl rfl ?_) | (refine E.QW.pure rfl rfl rfl (E.PV.move rfl rfl) ?_))
          all_goals (first | (refine E.QW.off rfl rfl rfl ?_) | (refine E.QW.pure rfl rfl rfl (E.PV.move rfl rfl) ?_))
          all_goals (first | (refine E.QW.off rfl rfl rfl ?_) | (refine E.QW.pure rfl rfl rfl (E.PV.len Try.underlying31 rfl rfl) ?_))
          all_goals (first | (refine E.QW.off rfl rfl rfl ?_) | (refine E.QW.pure rfl rfl rfl (E.PV.sub_i64 rfl rfl rfl ?_) ?_; (focus (omega))))
          all_goals (first | (refine E.QW.off rfl rfl rfl ?_) | (refine E.QW.pure rfl rfl rfl (E.PV.indexAddr1 (E.rdc hX) Try.underlying31 in3 rfl rfl rfl (E.tn ?_) ?_ ?_) ?_; (focus (omega)); (focus (first | (simp; done) | (simp; omega))); (focus (omega))))
          all_goals (first | (refine E.QW.off rfl rfl rfl ?_) | (refine E.QW.pure rfl rfl rfl (E.PV.load_int (E.rdc hX) na3 rfl rfl ?_) ?_; (focus (omega))))
          all_goals (first | (refine E.QW.off rfl rfl rfl ?_) | (refine E.QW.pure rfl rfl rfl (E.PV.fieldAddr fa30_1 rfl rfl) ?_))
          all_goals (first | (refine E.QW.off rfl rfl rfl ?_) | (refine E.QW.pure rfl rfl rfl (E.PV.load (i := 0) na3 rfl rfl rfl rfl) ?_))
          all_goals (first | (refine E.QW.off rfl rfl rfl ?_) | (refine E.QW.pure rfl rfl rfl (E.PV.neq rfl rfl rfl) ?_))
          all_goals (first | (refine E.QW.pure rfl rfl rfl (E.PV.pick_t rfl rfl rfl) ?_) | (refine E.QW.pure rfl rfl rfl (E.PV.pick_f rfl rfl rfl) ?_))
          all_goals (
            refine E.QW.nil ?_
            refine E.then_n ?_
            refine E.CW.cond rfl (fun hc => ?_) (fun hc => ?_)
            · simp only [E.b0, E.b1, E.b2, E.b3, E.b4, E.b5, E.b6, E.b7, E.b8, E.b9, E.b10, E.b11, E.b12, E.b13, E.b14, E.b15, E.b16, E.b17, E.b18, E.b19, E.b20, reduceCtorEq] at hc
              all_goals (
                refine E.CW.seq ?_
                refine E.CW.region ?_
                refine E.OW.pure rfl rfl rfl (E.PV.assign rfl rfl) ?_
                refine E.OW.pure rfl rfl rfl (E.PV.assign rfl rfl) ?_
                refine E.OW.nil ?_
                refine E.then_n ?_
                refine E.CW.ret ?_
                refine E.then_ret ?_
                refine E.KR.two [] Try.results20 rfl rfl rfl ?_
                exact ⟨by rw [Rt.walk_no (by assumption) (by omega) (fun hw => by (obtain ⟨h1, h2, h3, _⟩ := hw); (have hto : ((l.length : Int) - 1).toNat = l.length - 1 := by omega); simp_all)], rfl⟩)
            · first | ((cases hc; done)) | (simp only [E.b0, E.b1, E.b2, E.b3, E.b4, E.b5, E.b6, E.b7, E.b8, E.b9, E.b10, E.b11, E.b12, E.b13, E.b14, E.b15, E.b16, E.b17, E.b18, E.b19, E.b20, reduceCtorEq] at hc)
              all_goals (
                refine E.CW.skip ?_
                refine E.then_n ?_
                refine E.CW.seq ?_
                refine E.CW.region ?_
                refine E.OW.pure rfl rfl rfl (E.PV.loads (i := 1) is28 rfl rfl rfl rfl) ?_
                refine E.OW.pure rfl rfl rfl (E.PV.move rfl rfl) ?_
                refine E.OW.pure rfl rfl rfl (E.PV.loads (i := 0) is30 rfl rfl rfl rfl) ?_
                (refine E.OW.call nm59 rfl rfl rfl rfl rfl rfl _ (fun w hw => np_ok g t a b w ?_ ?_ ?_) ?_; (focus (refine hw.rdC ?_; assumption)); (focus (assumption)); (focus (assumption)); rintro _ _ ⟨yP, DP, rfl, rfl, hyx, hyD⟩)
                refine E.OW.pure rfl rfl rfl (E.PV.assign rfl rfl) ?_
                refine E.OW.nil ?_
                have hyn : yP.x.n = g.l.length := by rw [hyx]; rfl
                have hyK : yP.x.K = g.s.length := by rw [hyx]; rfl
                have hn64 : g.l.length ≤ 64 := Rt.len_le hL.c
                have hs16 : 1 ≤ g.s.length ∧ g.s.length ≤ 16 := Rt.per_of hL.c
                have hra : 0 ≤ a ∧ a < (g.l.length : Int) := hL.ra
                have hok : yP.x.ok := by rw [hyx]; exact Rt.G_ok hL
                refine E.then_n ?_
                refine E.CW.seq ?_
                refine E.CW.seq ?_
                have hl0 : l.getD 0 0 = a := by simp_all
                have hlb : l.getD (l.length - 1) 0 = b := by (have hto : ((l.length : Int) - 1).toNat = l.length - 1 := by omega); simp_all
                refine E.CW.region ?_
                refine E.OW.pure rfl rfl rfl (E.PV.move rfl rfl) ?_
                refine E.OW.pure rfl rfl rfl (E.PV.tail Try.underlying31 in3 rfl rfl rfl ?_) ?_; (focus (omega))
                refine E.OW.pure rfl rfl rfl (E.PV.len Try.underlying31 rfl rfl) ?_
                refine E.OW.pure rfl rfl rfl (E.PV.move rfl rfl) ?_
                refine E.OW.nil ?_
                refine E.then_n ?_
                refine E.CW.block ?_
                refine E.CW.loopk [3, 4, 13, 57, 58] 0 rfl rfl (fun mm mods Hm => ∃ i : Nat, mm = l.length - 1 - i ∧ mods = [(59, .int .i64 i)] ∧ Hm = [] ∧ (i ≤ l.length - 1 ∧ Rt.stepsOk yP.x (Rt.phk yP.x.K tick) l i ∧ 0 ≤ l.getD i 0 ∧ l.getD i 0 < yP.x.n)) (l.length - 1) ?_ ?_
                · exact ⟨[(59, _)], (by repeat (first | exact E.cov_nil | refine ⟨rfl, ?_⟩)), 0, rfl, rfl, rfl, by omega, Rt.steps_zero _ _ _, by omega, by omega⟩
                · rintro _ _ _ ⟨i, rfl, rfl, rfl, hi, hst, hi0, hin⟩
                  refine E.CW.seq ?_
                  refine E.CW.region ?_
                  refine E.OW.pure rfl rfl rfl (E.PV.lss rfl rfl rfl) ?_
                  refine E.OW.nil ?_
                  refine E.then_n ?_
                  refine E.CW.seq ?_
                  refine E.CW.cond rfl (fun hc => ?_) (fun hc => ?_)
                  · simp only [E.b0, E.b1, E.b2, E.b3, E.b4, E.b5, E.b6, E.b7, E.b8, E.b9, E.b10, E.b11, E.b12, E.b13, E.b14, E.b15, E.b16, E.b17, E.b18, E.b19, E.b20, reduceCtorEq] at hc
                    all_goals (
                      refine E.CW.skip ?_
                      refine E.then_n ?_
                      refine E.CW.seq ?_
                      refine E.CW.block ?_
                      refine E.CW.seq ?_
                      refine E.CW.region ?_
                      refine E.OW.pure rfl rfl rfl (E.PV.move rfl rfl) ?_
                      refine E.OW.pure rfl rfl rfl (E.PV.indexAddr1 (E.rdc hT) Try.underlying31 in3 rfl rfl rfl rfl ?_ ?_) ?_; (focus (first | (simp; done) | (simp; omega))); (focus (omega))
                      refine E.OW.pure rfl rfl rfl (E.PV.load_int (E.rdc hT) na3 rfl rfl ?_) ?_; (focus (omega))
                      refine E.OW.pure rfl rfl rfl (E.PV.assign rfl rfl) ?_
                      refine E.OW.pure rfl rfl rfl (E.PV.assign rfl rfl) ?_
                      refine E.OW.nil ?_
                      refine E.then_n ?_
                      refine E.CW.seq ?_
                      refine E.CW.put 15 (.int .i64 (l.getD (i + 1) 0)) rfl (congrArg (Value.int .i64) (E.tail_get l i)) ?_
                      refine E.CW.region ?_
                      refine E.OW.pure rfl rfl rfl (E.PV.assign rfl rfl) ?_
                      refine E.OW.nil ?_
                      refine E.then_n ?_
                      refine E.CW.seq ?_
                      refine E.CW.seq ?_
                      have hpn : (l.getD i 0).toNat < yP.x.n := by omega
                      have hnr : (yP.x.nr (l.getD i 0).toNat).length ≤ 5 := by rw [hyx]; exact Rt.G_near _ _ _ _ _
                      refine E.CW.draw mixed (by kernel_rfl) ?_
                      refine E.QW.pure rfl rfl rfl (E.PV.move rfl rfl) ?_
                      refine E.QW.pure rfl rfl rfl (E.PV.nilCheck rfl rfl) ?_
                      refine E.QW.pure rfl rfl rfl (E.PV.fieldAddr fa93_4 rfl rfl) ?_
                      refine E.QW.pure rfl rfl rfl (E.PV.load_at (E.p_b (E.sr0p (i := 0) rfl)) na91 rfl rfl rfl) ?_
                      refine E.QW.pure rfl rfl rfl (E.PV.move rfl rfl) ?_
                      refine E.QW.pure rfl rfl rfl (E.PV.move rfl rfl) ?_
                      refine E.QW.pure rfl rfl rfl (E.PV.indexAddr1 (E.rdc hX) Try.underlying31 in3 rfl rfl rfl rfl ?_ ?_) ?_; (focus (first | (simp; done) | (simp; omega))); (focus (omega))
                      refine E.QW.pure rfl rfl rfl (E.PV.load_int (E.rdc hX) na3 rfl rfl ?_) ?_; (focus (omega))
                      refine E.QW.pure rfl rfl rfl (E.PV.indexAddr1 (E.p_n (E.sr0p (i := 0) rfl)) Try.underlying91 in31 rfl rfl rfl (E.tn ?_) ?_ ?_) ?_; (focus (omega)); (focus (first | (simp; done) | (simp; omega))); (focus (omega))
                      refine E.QW.pure rfl rfl rfl (E.PV.load_sn (E.p_n (E.sr0p (i := 0) rfl)) na31 rfl rfl ?_) ?_; (focus (omega))
                      refine E.QW.pure rfl rfl rfl (E.PV.len Try.underlying31 rfl rfl) ?_
                      refine E.QW.pure rfl rfl rfl (E.PV.move rfl rfl) ?_
                      refine E.QW.nil ?_
                      refine E.then_n ?_
                      refine E.CW.block ?_
                      refine E.CW.loopk [3, 4, 13, 14, 15, 57, 58, 59, 73, 74] 0 rfl rfl (fun mm mods Hm => ∃ j : Nat, mm = (yP.x.nr (l.getD i 0).toNat).length - j ∧ mods = [(16, .bool (Rt.fnd yP.x (l.getD i 0).toNat j (l.getD (i + 1) 0))), (75, .int .i64 j)] ∧ Hm = [] ∧ j ≤ (yP.x.nr (l.getD i 0).toNat).length) ((yP.x.nr (l.getD i 0).toNat).length) ?_ ?_
                      · exact ⟨[(16, _), (75, _)], (by repeat (first | exact E.cov_nil | refine ⟨rfl, ?_⟩)), 0, rfl, (by rw [Rt.fnd_zero]; rfl), rfl, by omega⟩
                      · rintro _ _ _ ⟨j, rfl, rfl, rfl, hj⟩
                        refine E.CW.seq ?_
                        refine E.CW.region ?_
                        refine E.OW.pure rfl rfl rfl (E.PV.lss rfl rfl rfl) ?_
                        refine E.OW.nil ?_
                        refine E.then_n ?_
                        refine E.CW.seq ?_
                        refine E.CW.cond rfl (fun hc => ?_) (fun hc => ?_)
                        · simp only [E.b0, E.b1, E.b2, E.b3, E.b4, E.b5, E.b6, E.b7, E.b8, E.b9, E.b10, E.b11, E.b12, E.b13, E.b14, E.b15, E.b16, E.b17, E.b18, E.b19, E.b20, reduceCtorEq] at hc
                          all_goals (
                            refine E.CW.skip ?_
                            refine E.then_n ?_
                            refine E.CW.seq ?_
                            refine E.CW.block ?_
                            refine E.CW.seq ?_
                            refine E.CW.region ?_
                            refine E.OW.pure rfl rfl rfl (E.PV.indexAddr1 (E.p_nr (E.sr0p (i := 0) rfl) ?_) Try.underlying31 in3 rfl rfl rfl rfl ?_ ?_) ?_; (focus (omega)); (focus (first | (simp; done) | (simp; omega))); (focus (omega))
                            refine E.OW.pure rfl rfl rfl (E.PV.load_nn (E.p_nr (E.sr0p (i := 0) rfl) ?_) na3 rfl rfl ?_) ?_; (focus (omega)); (focus (omega))
                            refine E.OW.pure rfl rfl rfl (E.PV.assign rfl rfl) ?_
                            refine E.OW.nil ?_
                            refine E.then_n ?_
                            refine E.CW.region ?_
                            refine E.OW.pure rfl rfl rfl (E.PV.move rfl rfl) ?_
                            refine E.OW.pure rfl rfl rfl (E.PV.move rfl rfl) ?_
                            all_goals (refine E.OW.split 80 rfl (fun hc => ?_) (fun hc => ?_) <;> (try simp only [E.b0, E.b1, E.b2, E.b3, E.b4, E.b5, E.b6, E.b7, E.b8, E.b9, E.b10, E.b11, E.b12, E.b13, E.b14, E.b15, E.b16, E.b17, E.b18, E.b19, E.b20, reduceCtorEq] at hc) <;> (try (exfalso; first | assumption | contradiction | omega)))
                            all_goals (first | (refine E.OW.off rfl rfl rfl ?_) | (refine E.OW.pure rfl rfl rfl (E.PV.move rfl rfl) ?_))
                            all_goals (first | (refine E.OW.off rfl rfl rfl ?_) | (refine E.OW.pure rfl rfl rfl (E.PV.move rfl rfl) ?_))
                            all_goals (first | (refine E.OW.off rfl rfl rfl ?_) | (refine E.OW.pure rfl rfl rfl (E.PV.eql rfl rfl rfl) ?_))
                            all_goals (first | (refine E.OW.pure rfl rfl rfl (E.PV.pick_t rfl rfl rfl) ?_) | (refine E.OW.pure rfl rfl rfl (E.PV.pick_f rfl rfl rfl) ?_))
                            all_goals (refine E.OW.pure rfl rfl rfl (E.PV.assign rfl rfl) ?_)
                            all_goals (
                              refine E.OW.nil ?_
                              refine E.blk_n ?_
                              refine E.then_n ?_
                              refine E.CW.region ?_
                              refine E.OW.pure rfl rfl rfl (E.PV.add_i64 rfl rfl rfl ?_) ?_; (focus (omega))
                              refine E.OW.pure rfl rfl rfl (E.PV.move rfl rfl) ?_
                              refine E.OW.nil ?_
                              refine E.then_nf ?_
                              refine ⟨_, [(16, _), (75, _)], [0, 0, 0], _, ?_, by repeat (first | exact E.cov_nil | refine ⟨rfl, ?_⟩), rfl, j + 1, rfl, (by rw [← Rt.fnd_step (V := _) (by omega) rfl]; simp_all), rfl, by omega⟩
                              omega))
                        · simp only [E.b0, E.b1, E.b2, E.b3, E.b4, E.b5, E.b6, E.b7, E.b8, E.b9, E.b10, E.b11, E.b12, E.b13, E.b14, E.b15, E.b16, E.b17, E.b18, E.b19, E.b20, reduceCtorEq] at hc
                          all_goals (
                            refine E.CW.exit ?_
                            refine E.then_x ?_
                            refine E.then_x ?_
                            refine E.blk_eq ?_
                            refine E.then_n ?_
                            refine E.CW.seq ?_
                            have hkl := Rt.phk_lt (show 1 ≤ yP.x.K by omega) (tick + (i : Int) + 1)
                            have hkm : Rt.phk yP.x.K (tick + (i : Int) + 1) = (Rt.phk yP.x.K tick + i + 1) % yP.x.K := by rw [show tick + (i : Int) + 1 = tick + ((i + 1 : Nat) : Int) by omega, Rt.phk_add (by omega)]; rfl
                            have hti : (tick + (i : Int) + 1) < 18446744073709551616 := by omega
                            rcases Rt.fnd_cases hok (z := (l.getD (i + 1) 0)) hpn (show (yP.x.nr (l.getD i 0).toNat).length ≤ j by omega) with ⟨hfd, hz0, hzn, hzm⟩ | ⟨hfd, hzm⟩
                            all_goals rw [hfd]
                            · skip
                              refine E.CW.draw mixed (by kernel_rfl) ?_
                              refine E.QW.pure rfl rfl rfl (E.PV.move rfl rfl) ?_
                              refine E.QW.pure rfl rfl rfl (E.PV.not rfl rfl) ?_
                              refine E.QW.pure rfl rfl rfl (E.PV.move rfl rfl) ?_
                              all_goals (refine E.QW.put 88 (.bool false) (v := .bool false) rfl rfl ?_)
                              all_goals (refine E.QW.pure rfl rfl rfl (E.PV.move rfl rfl) ?_)
                              all_goals (refine E.QW.pure rfl rfl rfl (E.PV.nilCheck rfl rfl) ?_)
                              all_goals (refine E.QW.pure rfl rfl rfl (E.PV.fieldAddr fa93_2 rfl rfl) ?_)
                              all_goals (refine E.QW.pure rfl rfl rfl (E.PV.load_at (E.p_b (E.sr0p (i := 0) rfl)) na90 rfl rfl rfl) ?_)
                              all_goals (refine E.QW.pure rfl rfl rfl (E.PV.move rfl rfl) ?_)
                              all_goals (refine E.QW.pure rfl rfl rfl (E.PV.move rfl rfl) ?_)
                              all_goals (refine E.QW.pure rfl rfl rfl (E.PV.move rfl rfl) ?_)
                              all_goals (refine E.QW.pure rfl rfl rfl (E.PV.conv_in Try.underlying3 Try.underlying26 rfl rfl ?_) ?_; (focus (first | exact E.wrap_u8 _ | (simp only [IntKind.wrap_i64, IntKind.wrap_u64, IntKind.wrap_u8]; omega))))
                              all_goals (refine E.QW.pure rfl rfl rfl (E.PV.add_u64 rfl rfl rfl ?_) ?_; (focus (omega)))
                              all_goals (refine E.QW.pure rfl rfl rfl (E.PV.add_u64 rfl rfl rfl ?_) ?_; (focus (omega)))
                              all_goals ((refine E.QW.call nm60 rfl rfl rfl rfl rfl rfl _ (fun w hw => E.Post.val (ph_ok yP (tick + (i : Int) + 1) w ?_ ?_ ?_)) ?_; (focus (exact E.sr0p (i := 0) rfl w hw)); (focus (omega)); (focus (omega))))
                              all_goals (refine E.QW.pure rfl rfl rfl (E.PV.indexAddr1 (E.p_a (E.sr0p (i := 0) rfl)) Try.underlying90 in89 rfl rfl rfl rfl ?_ ?_) ?_; (focus (first | (simp; done) | (simp; omega))); (focus (omega)))
                              all_goals (refine E.QW.pure rfl rfl rfl (E.PV.load_sc (E.p_a (E.sr0p (i := 0) rfl)) na89 rfl rfl ?_) ?_; (focus (omega)))
                              all_goals (refine E.QW.pure rfl rfl rfl (E.PV.move rfl rfl) ?_)
                              all_goals (refine E.QW.pure rfl rfl rfl (E.PV.indexAddr1 (E.p_ar (E.sr0p (i := 0) rfl) ?_) Try.underlying89 in4 rfl rfl rfl (E.tn ?_) ?_ ?_) ?_; (focus (omega)); (focus (omega)); (focus (first | (simp; done) | (simp; omega))); (focus (omega)))
                              all_goals (refine E.QW.pure rfl rfl rfl (E.PV.load_bl (E.p_ar (E.sr0p (i := 0) rfl) ?_) na4 rfl rfl ?_) ?_; (focus (omega)); (focus (omega)))
                              all_goals (refine E.QW.pure rfl rfl rfl (E.PV.not rfl rfl) ?_)
                              all_goals (refine E.QW.pure rfl rfl rfl (E.PV.pick_f rfl rfl rfl) ?_)
                              all_goals (
                                refine E.QW.nil ?_
                                refine E.then_n ?_
                                refine E.CW.cond rfl (fun hc => ?_) (fun hc => ?_)
                                · simp only [E.b0, E.b1, E.b2, E.b3, E.b4, E.b5, E.b6, E.b7, E.b8, E.b9, E.b10, E.b11, E.b12, E.b13, E.b14, E.b15, E.b16, E.b17, E.b18, E.b19, E.b20, reduceCtorEq] at hc
                                  all_goals (
                                    refine E.CW.seq ?_
                                    refine E.CW.region ?_
                                    refine E.OW.pure rfl rfl rfl (E.PV.assign rfl rfl) ?_
                                    refine E.OW.pure rfl rfl rfl (E.PV.assign rfl rfl) ?_
                                    refine E.OW.nil ?_
                                    refine E.then_n ?_
                                    refine E.CW.ret ?_
                                    refine E.blk_ret ?_
                                    refine E.then_ret ?_
                                    refine E.then_ret ?_
                                    refine E.blk_ret ?_
                                    refine E.then_ret ?_
                                    refine E.KR.two [] Try.results20 rfl rfl rfl ?_
                                    exact ⟨by rw [Rt.walk_no (by assumption) (by omega) (fun hw => by (obtain ⟨_, _, _, h4⟩ := hw); (have h5 := h4 i (by omega)); rw [show Rt.ph g.q tick = Rt.phk yP.x.K tick from by rw [hyx]; rfl, ← hyx, ← hkm] at h5; simp_all)], rfl⟩)
                                · simp only [E.b0, E.b1, E.b2, E.b3, E.b4, E.b5, E.b6, E.b7, E.b8, E.b9, E.b10, E.b11, E.b12, E.b13, E.b14, E.b15, E.b16, E.b17, E.b18, E.b19, E.b20, reduceCtorEq] at hc
                                  all_goals (
                                    refine E.CW.skip ?_
                                    refine E.blk_n ?_
                                    refine E.then_n ?_
                                    refine E.CW.region ?_
                                    refine E.OW.pure rfl rfl rfl (E.PV.add_i64 rfl rfl rfl ?_) ?_; (focus (omega))
                                    refine E.OW.pure rfl rfl rfl (E.PV.move rfl rfl) ?_
                                    refine E.OW.nil ?_
                                    refine E.then_nf ?_
                                    refine ⟨_, [(59, _)], [0, 0, 0], _, ?_, by repeat (first | exact E.cov_nil | refine ⟨rfl, ?_⟩), rfl, i + 1, rfl, rfl, rfl, by omega, Rt.steps_next hst hz0 hzm (by rw [← hkm]; assumption), hz0, hzn⟩
                                    omega))
                            · skip
                              refine E.CW.draw mixed (by kernel_rfl) ?_
                              refine E.QW.pure rfl rfl rfl (E.PV.move rfl rfl) ?_
                              refine E.QW.pure rfl rfl rfl (E.PV.not rfl rfl) ?_
                              refine E.QW.pure rfl rfl rfl (E.PV.move rfl rfl) ?_
                              all_goals (refine E.QW.put 88 (.bool true) (v := .bool true) rfl rfl ?_)
                              all_goals (refine E.QW.off rfl rfl rfl ?_)
                              all_goals (refine E.QW.off rfl rfl rfl ?_)
                              all_goals (refine E.QW.off rfl rfl rfl ?_)
                              all_goals (refine E.QW.off rfl rfl rfl ?_)
                              all_goals (refine E.QW.off rfl rfl rfl ?_)
                              all_goals (refine E.QW.off rfl rfl rfl ?_)
                              all_goals (refine E.QW.off rfl rfl rfl ?_)
                              all_goals (refine E.QW.off rfl rfl rfl ?_)
                              all_goals (refine E.QW.off rfl rfl rfl ?_)
                              all_goals (refine E.QW.off rfl rfl rfl ?_)
                              all_goals (refine E.QW.off rfl rfl rfl ?_)
                              all_goals (refine E.QW.off rfl rfl rfl ?_)
                              all_goals (refine E.QW.off rfl rfl rfl ?_)
                              all_goals (refine E.QW.off rfl rfl rfl ?_)
                              all_goals (refine E.QW.off rfl rfl rfl ?_)
                              all_goals (refine E.QW.off rfl rfl rfl ?_)
                              all_goals (refine E.QW.off rfl rfl rfl ?_)
                              all_goals (refine E.QW.pure rfl rfl rfl (E.PV.pick_t rfl rfl rfl) ?_)
                              all_goals (
                                refine E.QW.nil ?_
                                refine E.then_n ?_
                                refine E.CW.cond rfl (fun hc => ?_) (fun hc => ?_)
                                · simp only [E.b0, E.b1, E.b2, E.b3, E.b4, E.b5, E.b6, E.b7, E.b8, E.b9, E.b10, E.b11, E.b12, E.b13, E.b14, E.b15, E.b16, E.b17, E.b18, E.b19, E.b20, reduceCtorEq] at hc
                                  all_goals (
                                    refine E.CW.seq ?_
                                    refine E.CW.region ?_
                                    refine E.OW.pure rfl rfl rfl (E.PV.assign rfl rfl) ?_
                                    refine E.OW.pure rfl rfl rfl (E.PV.assign rfl rfl) ?_
                                    refine E.OW.nil ?_
                                    refine E.then_n ?_
                                    refine E.CW.ret ?_
                                    refine E.blk_ret ?_
                                    refine E.then_ret ?_
                                    refine E.then_ret ?_
                                    refine E.blk_ret ?_
                                    refine E.then_ret ?_
                                    refine E.KR.two [] Try.results20 rfl rfl rfl ?_
                                    exact ⟨by rw [Rt.walk_no (by assumption) (by omega) (fun hw => by (obtain ⟨_, _, _, h4⟩ := hw); (have h5 := h4 i (by omega)); rw [show Rt.ph g.q tick = Rt.phk yP.x.K tick from by rw [hyx]; rfl, ← hyx, ← hkm] at h5; simp_all)], rfl⟩)
                                · (cases hc; done))))
                  · simp only [E.b0, E.b1, E.b2, E.b3, E.b4, E.b5, E.b6, E.b7, E.b8, E.b9, E.b10, E.b11, E.b12, E.b13, E.b14, E.b15, E.b16, E.b17, E.b18, E.b19, E.b20, reduceCtorEq] at hc
                    all_goals (
                      refine E.CW.exit ?_
                      refine E.then_x ?_
                      refine E.then_x ?_
                      refine E.blk_eq ?_
                      refine E.then_n ?_
                      refine E.CW.seq ?_
                      refine E.CW.region ?_
                      refine E.OW.pure rfl rfl rfl (E.PV.assign rfl rfl) ?_
                      refine E.OW.pure rfl rfl rfl (E.PV.assign rfl rfl) ?_
                      refine E.OW.nil ?_
                      refine E.then_n ?_
                      refine E.CW.ret ?_
                      refine E.KR.two [] Try.results20 rfl rfl rfl ?_
                      obtain rfl : i = l.length - 1 := by omega
                      exact ⟨by rw [Rt.walk_yes (by assumption) (by omega) ⟨by omega, hl0, hlb, by rw [show Rt.ph g.q tick = Rt.phk yP.x.K tick from by rw [hyx]; rfl, ← hyx]; exact hst⟩], rfl⟩)))))
end Go.Proofs.Ytflkbabhbnmajaa

/- The legs of a tenant, the longest one, sound configs, bounds: plainly; and their slices. -/
set_option linter.unusedSimpArgs false
set_option linter.unusedVariables false
namespace Go.Proofs.Ytflkbabhbnmajaa
namespace Rt
open Cf
theorem prs_succ {u v : List Int} {i : Nat} (hi : i < u.length) : prs (u.take (i + 1)) v = prs (u.take i) v ++ v.map fun q => (u.getD i 0, q) := by
  unfold prs
  rw [List.take_add_one, List.getElem?_eq_getElem hi, Option.toList_some, List.flatMap_append]
  simp [List.getD, hi]
theorem prs_len (u v : List Int) : (prs u v).length = u.length * v.length := by
  unfold prs
  induction u with
  | nil => simp
  | cons a r ih => simp only [List.flatMap_cons, List.length_append, List.length_map, ih, List.length_cons]; rw [Nat.succ_mul]; omega
theorem map_snoc {u v : List Int} {L : List (Int × Int)} {i j : Nat} (hj : j < v.length) : L ++ (v.take (j + 1)).map (fun q => (u.getD i 0, q)) = (L ++ (v.take j).map fun q => (u.getD i 0, q)) ++ [(u.getD i 0, v.getD j 0)] := by
  rw [List.take_add_one, List.getElem?_eq_getElem hj, Option.toList_some, List.map_append, List.append_assoc]
  simp [List.getD, hj]
theorem prs_mem {u v : List Int} {x : Int × Int} : x ∈ prs u v ↔ x.1 ∈ u ∧ x.2 ∈ v := by
  unfold prs
  simp only [List.mem_flatMap, List.mem_map]
  constructor
  · rintro ⟨p, h1, q, h2, rfl⟩; exact ⟨h1, h2⟩
  · rintro ⟨h1, h2⟩; exact ⟨x.1, h1, x.2, h2, rfl⟩
structure Ten (g : C) (t : Int) : Prop where
  c : check g = 0
  p : present g.ts t = true
theorem Ten.ten {g : C} {t : Int} (h : Ten g t) : 0 ≤ t ∧ t < 3 ∧ t.toNat < g.ts.length := by
  have h1 := pres_lt h.p
  have h2 := teams_len (check_zero h.c).2.2.1
  omega
theorem Ten.valid {g : C} {t : Int} (h : Ten g t) : validTeam g.l t (team g t) = true := by
  have h1 := h.ten
  have h2 := team_at h.c h1.2.2
  have h3 := h.p
  unfold present at h3
  simp only [Bool.and_eq_true, Bool.not_eq_true'] at h3
  rcases h2 with h2 | h2
  · exact absurd h2 (by rw [show (g.ts.getD t.toNat T.z) = g.ts.getD t.toNat T.z from rfl, h3.2]; decide)
  · rw [Int.toNat_of_nonneg h1.1] at h2; exact h2
theorem Ten.spot {g : C} {t : Int} (h : Ten g t) {p : Int} (hp : p ∈ spots (team g t)) : (0 ≤ p ∧ p < g.l.length) ∧ owner g p = t := by
  have h1 := h.valid
  unfold validTeam at h1
  simp only [Bool.and_eq_true, List.all_eq_true] at h1
  have h2 := h1.1.2 p hp
  unfold ownAt at h2
  simp only [Bool.and_eq_true, decide_eq_true_eq] at h2
  refine ⟨h2.1, ?_⟩
  rw [owner_on h.c h2.1]
  have h3 := h.ten
  have h4 := Fl.okc_at (check_zero h.c).1 (j := p.toNat) (by omega)
  have h5 := h2.2
  rw [Fl.own_iff ⟨h3.1, h3.2.1⟩ h4] at h5
  exact of_decide_eq_true h5
theorem Ten.small {g : C} {t : Int} (h : Ten g t) : (1 ≤ (team g t).h.length ∧ (team g t).h.length ≤ 3) ∧ (1 ≤ (team g t).p.length ∧ (team g t).p.length ≤ 3) ∧ (1 ≤ (team g t).d.length ∧ (team g t).d.length ≤ 3) := by
  have h1 := h.valid
  unfold validTeam at h1
  simp only [Bool.and_eq_true] at h1
  exact numbers_len h1.1.1
theorem Ten.nums {g : C} {t : Int} (h : Ten g t) : (1 ≤ (team g t).n1 ∧ (team g t).n1 ≤ 8) ∧ (1 ≤ (team g t).n2 ∧ (team g t).n2 ≤ 8) ∧ (1 ≤ (team g t).n3 ∧ (team g t).n3 ≤ 8) := by
  have h1 := h.valid
  unfold validTeam numbers lims btw at h1
  simp only [Bool.and_eq_true, List.all_cons, decide_eq_true_eq] at h1
  omega
theorem Ten.leg {g : C} {t : Int} (h : Ten g t) {x : Int × Int} (hx : x ∈ legs (team g t)) : Leg g t x.1 x.2 := by
  have hs : x.1 ∈ spots (team g t) ∧ x.2 ∈ spots (team g t) := by
    unfold legs at hx
    simp only [List.mem_append, prs_mem] at hx
    unfold spots
    simp only [List.mem_append]
    rcases hx with (⟨h1, h2⟩ | ⟨h1, h2⟩) | ⟨h1, h2⟩ <;> simp [h1, h2]
  obtain ⟨h1, h2⟩ := h.spot hs.1
  obtain ⟨h3, h4⟩ := h.spot hs.2
  exact ⟨h.c, h.p, h1, h3, h4, .inl h2⟩
theorem Ten.legs_len {g : C} {t : Int} (h : Ten g t) : (legs (team g t)).length ≤ 27 := by
  obtain ⟨h1, h2, h3⟩ := h.small
  unfold legs
  simp only [List.length_append, prs_len]
  have a := Nat.mul_le_mul h1.2 h2.2
  have b := Nat.mul_le_mul h2.2 h3.2
  have c := Nat.mul_le_mul h3.2 h1.2
  omega
/-- the arrivals of a leg, tick by tick. -/
noncomputable def rowOf (g : C) (t : Int) (x : Int × Int) : List Int := tbl (Bf.arr (G g t x.1 x.2)) x.1.toNat g.s.length
noncomputable def vals (g : C) (t : Int) (i k : Nat) : List Int := ((legs (team g t)).take i).flatMap (rowOf g t) ++ (rowOf g t ((legs (team g t)).getD i (0, 0))).take k
def mxl (l : List Int) : Int := l.foldl (fun m v => if m < v then v else m) 0
noncomputable def most (g : C) (t : Int) : Int := if ((legs (team g t)).flatMap (rowOf g t)).any (fun v => decide (v < 0)) then -1 else mxl ((legs (team g t)).flatMap (rowOf g t))
theorem mxl_snoc (l : List Int) (v : Int) : mxl (l ++ [v]) = if mxl l < v then v else mxl l := by unfold mxl; rw [List.foldl_append]; rfl
theorem row_len (g : C) (t : Int) (x : Int × Int) : (rowOf g t x).length = g.s.length := by simp [rowOf, tbl_len]
theorem row_at {g : C} {t : Int} {x : Int × Int} {k : Nat} (hk : k < g.s.length) : (rowOf g t x)[k]? = some (Bf.arr (G g t x.1 x.2) k x.1.toNat) := by simp [rowOf, tbl, hk]
theorem vals_zero (g : C) (t : Int) : vals g t 0 0 = [] := by simp [vals]
theorem vals_step {g : C} {t : Int} {i k : Nat} (hk : k < g.s.length) : vals g t i (k + 1) = vals g t i k ++ [Bf.arr (G g t ((legs (team g t)).getD i (0, 0)).1 ((legs (team g t)).getD i (0, 0)).2) k ((legs (team g t)).getD i (0, 0)).1.toNat] := by
  unfold vals
  rw [List.take_add_one, row_at hk, Option.toList_some, List.append_assoc]
theorem vals_row {g : C} {t : Int} {i k : Nat} (hi : i < (legs (team g t)).length) (hk : g.s.length ≤ k) : vals g t i k = vals g t (i + 1) 0 := by
  unfold vals
  rw [show (rowOf g t ((legs (team g t)).getD i (0, 0))).take k = rowOf g t ((legs (team g t)).getD i (0, 0)) from List.take_of_length_le (by rw [row_len]; exact hk), List.take_zero, List.append_nil, List.take_add_one, List.getElem?_eq_getElem hi, Option.toList_some, List.flatMap_append]
  simp [List.getD, hi]
theorem vals_all {g : C} {t : Int} {i : Nat} (hi : (legs (team g t)).length ≤ i) : vals g t i 0 = (legs (team g t)).flatMap (rowOf g t) := by
  unfold vals; rw [List.take_of_length_le hi, List.take_zero, List.append_nil]
theorem vals_mem {g : C} {t : Int} {i k : Nat} (hi : i < (legs (team g t)).length) (hk : k < g.s.length) : Bf.arr (G g t ((legs (team g t)).getD i (0, 0)).1 ((legs (team g t)).getD i (0, 0)).2) k ((legs (team g t)).getD i (0, 0)).1.toNat ∈ (legs (team g t)).flatMap (rowOf g t) := by
  refine List.mem_flatMap.2 ⟨(legs (team g t)).getD i (0, 0), by rw [List.getD_eq_getElem?_getD, List.getElem?_eq_getElem hi, Option.getD_some]; exact List.getElem_mem _, ?_⟩
  exact List.mem_of_getElem? (row_at hk)
theorem most_neg {g : C} {t v : Int} (hm : v ∈ (legs (team g t)).flatMap (rowOf g t)) (hv : v < 0) : most g t = -1 := if_pos (List.any_eq_true.2 ⟨v, hm, decide_eq_true hv⟩)
theorem most_pos {g : C} {t : Int} (h : ∀ v ∈ (legs (team g t)).flatMap (rowOf g t), 0 ≤ v) : most g t = mxl ((legs (team g t)).flatMap (rowOf g t)) := by
  refine if_neg fun h2 => ?_
  obtain ⟨v, h3, h4⟩ := List.any_eq_true.1 h2
  have := h v h3
  have := of_decide_eq_true h4
  omega
theorem legs_at {m : T} {i : Nat} (hi : i < (legs m).length) : (legs m).getD i (0, 0) ∈ legs m := by
  rw [List.getD_eq_getElem?_getD, List.getElem?_eq_getElem hi, Option.getD_some]; exact List.getElem_mem _
noncomputable def soundR (g : C) : Int := if check g = 0 then (if (tenants g.ts g.ts.length).all (fun t => decide (0 ≤ most g t)) then 0 else 130) else check g
noncomputable def longestR (g : C) (t : Int) : Int × Int := if asked g t 0 = 0 then (if soundR g = 0 then (most g t, 0) else (0, soundR g)) else (0, asked g t 0)
def bd (m : T) (n : Int) : Int := (m.n3 + m.h.length + 1) * (4 * m.h.length + 8) * (n + m.n1 + m.n2 + 4)
noncomputable def boundR (g : C) (t : Int) : Int × Int := if (longestR g t).2 = 0 then (bd (team g t) (longestR g t).1, 0) else (0, (longestR g t).2)
theorem mxl_b {b : Int} (hb : 0 ≤ b) : ∀ {l : List Int}, (∀ v ∈ l, v ≤ b) → 0 ≤ mxl l ∧ mxl l ≤ b := by
  have key : ∀ (l : List Int) (m : Int), 0 ≤ m → m ≤ b → (∀ v ∈ l, v ≤ b) → 0 ≤ l.foldl (fun m v => if m < v then v else m) m ∧ l.foldl (fun m v => if m < v then v else m) m ≤ b := by
    intro l
    induction l with
    | nil => intro m h1 h2 _; exact ⟨h1, h2⟩
    | cons a r ih =>
      intro m h1 h2 h3
      rw [List.foldl_cons]
      have := h3 a (by simp)
      refine ih _ ?_ ?_ fun v hv => h3 v (by simp [hv])
      · split <;> omega
      · split <;> omega
  intro l h
  exact key l 0 (Int.le_refl _) hb h
theorem most_b {g : C} {t : Int} (h : Ten g t) : -1 ≤ most g t ∧ most g t ≤ 1024 := by
  unfold most
  split
  · omega
  · have := mxl_b (b := 1024) (by omega) (l := (legs (team g t)).flatMap (rowOf g t)) fun v hv => by
      obtain ⟨x, h1, h2⟩ := List.mem_flatMap.1 hv
      unfold rowOf tbl at h2
      obtain ⟨k, h3, rfl⟩ := List.mem_map.1 h2
      have hL := h.leg h1
      have hk := List.mem_range.1 h3
      have := arr_le (tick := (k : Int)) hL
      unfold arrv at this
      rw [ph_nat k hk] at this
      exact this
    omega
theorem asked_ten {g : C} {t tick : Int} (h : asked g t tick = 0) : Ten g t := by
  unfold asked at h
  split at h
  · rename_i hc
    split at h
    · rename_i hp; exact ⟨hc, hp.1⟩
    · exact absurd h (by decide)
  · rename_i hc; exact absurd h hc
theorem ten_of {g : C} (h : check g = 0) {i : Nat} (hi : i < (tenants g.ts g.ts.length).length) : Ten g ((tenants g.ts g.ts.length).getD i 0) := by
  have hm := getD_mem hi
  generalize (tenants g.ts g.ts.length).getD i 0 = t at *
  unfold tenants at hm
  obtain ⟨q, h1, rfl⟩ := List.mem_map.1 hm
  exact ⟨h, (List.mem_filter.1 h1).2⟩
theorem sound_bad {g : C} (h : ¬ check g = 0) : soundR g = check g := if_neg h
theorem sound_no {g : C} (h : check g = 0) {i : Nat} (hi : i < (tenants g.ts g.ts.length).length) (hm : most g ((tenants g.ts g.ts.length).getD i 0) < 0) : soundR g = 130 := by
  refine (if_pos h).trans (if_neg fun h2 => ?_)
  have := List.all_eq_true.1 h2 _ (getD_mem hi)
  have := of_decide_eq_true this
  omega
theorem sound_yes {g : C} (h : check g = 0) (hm : ∀ i, i < (tenants g.ts g.ts.length).length → 0 ≤ most g ((tenants g.ts g.ts.length).getD i 0)) : soundR g = 0 := by
  refine (if_pos h).trans (if_pos (List.all_eq_true.2 fun t ht => ?_))
  obtain ⟨i, hi, rfl⟩ := List.getElem_of_mem ht
  have := hm i hi
  rw [List.getD_eq_getElem?_getD, List.getElem?_eq_getElem hi, Option.getD_some] at this
  exact decide_eq_true this
theorem nn_app {l : List Int} {v : Int} (h : ∀ x ∈ l, 0 ≤ x) (hv : 0 ≤ v) : ∀ x ∈ l ++ [v], 0 ≤ x := fun x hx => by
  rcases List.mem_append.1 hx with h1 | h1
  · exact h x h1
  · rw [List.mem_singleton.1 h1]; exact hv
theorem mulc {a b x y : Int} (ha : 0 ≤ a ∧ a ≤ x) (hb : 0 ≤ b ∧ b ≤ y) : 0 ≤ a * b ∧ a * b ≤ x * y := ⟨Int.mul_nonneg ha.1 hb.1, Int.mul_le_mul ha.2 hb.2 hb.1 (by omega)⟩
theorem bd_parts {m : T} {n : Int} (h : m.h.length ≤ 3) (h3 : 1 ≤ m.n3 ∧ m.n3 ≤ 8) : 0 ≤ (m.n3 + (m.h.length : Int) + 1) * (4 * (m.h.length : Int) + 8) ∧ (m.n3 + (m.h.length : Int) + 1) * (4 * (m.h.length : Int) + 8) ≤ 12 * 20 := mulc (by omega) (by omega)
theorem mulb {a b : Int} (ha : 0 ≤ a ∧ a ≤ 1000000) (hb : 0 ≤ b ∧ b ≤ 1000000) : -9223372036854775808 ≤ a * b ∧ a * b ≤ 9223372036854775807 := by
  have h1 : 0 ≤ a * b := Int.mul_nonneg ha.1 hb.1
  have h2 : a * b ≤ 1000000 * 1000000 := Int.mul_le_mul ha.2 hb.2 hb.1 (by omega)
  omega
theorem long_ten {g : C} {t : Int} (h : (longestR g t).2 = 0) : Ten g t ∧ (longestR g t).1 = most g t := by
  unfold longestR at *
  by_cases h1 : asked g t 0 = 0
  · rw [if_pos h1] at h ⊢
    by_cases h2 : soundR g = 0
    · rw [if_pos h2]; exact ⟨asked_ten h1, rfl⟩
    · rw [if_neg h2] at h; exact absurd h h2
  · rw [if_neg h1] at h; exact absurd h h1
end Rt
namespace E
open Go Go.RowKit
theorem pairs_append (a b : List (Int × Int)) : pairs (a ++ b) = pairs a ++ pairs b := by
  induction a with
  | nil => rfl
  | cons x r ih => simp only [List.cons_append, pairs, ih]
theorem lgs_snoc (B T Et : Nat) (A : Option Addr) (c : Nat) (X : List (Int × Int)) (p q : Int) :
    [HP.blk B T [.slice A (X.length + 1) c], HP.row Et 2 A (X.length + 1) c (pairs X ++ [.int .i64 p, .int .i64 q])] = [HP.blk B T [.slice A (X ++ [(p, q)]).length c], HP.row Et 2 A (X ++ [(p, q)]).length c (pairs (X ++ [(p, q)]))] := by
  rw [List.length_append, pairs_append]; rfl
end E
end Go.Proofs.Ytflkbabhbnmajaa

/- Closed facts on the program (printed by gen.py). -/
namespace Go.Proofs.Ytflkbabhbnmajaa
open Go Go.RowKit
set_option linter.unusedSimpArgs false
set_option linter.unusedVariables false
theorem bld30_0_1 (x0 : Int) (x1 : Int) (w : World) : (Instr.build 30 #[(0, .int .i64 x0), (1, .int .i64 x1)]).run Try.prog w = .ok (.agg #[.int .i64 x0, .int .i64 x1]) w := by kernel_rfl
theorem bsl44_1_0 (x0 : Int) (x1 : Int) (w : World) : (Instr.buildSlice 44 1 #[(0, .agg #[.int .i64 x0, .int .i64 x1])]).run Try.prog w = .ok (.slice (some ⟨w.heap.size, 0, none⟩) 1 1) (w.alloc (.cells #[.int .i64 x0, .int .i64 x1] 30)) := by kernel_rfl
theorem in30 : E.In Try.prog 30 (.agg #[.int .i64 0, .int .i64 0]) 2 16 := by unfold E.In; kernel_rfl
theorem in44 : E.In Try.prog 44 (.slice none 0 0) 1 24 := by unfold E.In; kernel_rfl
theorem na44 : E.Na Try.prog 44 := fun _ => by kernel_rfl
theorem nm67 : E.Nm Try.prog 67 := ⟨Try.f67, Try.func67, rfl, by kernel_rfl⟩
end Go.Proofs.Ytflkbabhbnmajaa

/- Walks (printed by gen.py). -/
namespace Go.Proofs.Ytflkbabhbnmajaa
open Go Go.RowKit
set_option linter.unusedSimpArgs false
set_option linter.unusedVariables false

set_option maxRecDepth 100000 in
theorem lg_ok (A1 : Option Addr) (c1 : Nat) (u1 : List Int) (A2 : Option Addr) (c2 : Nat) (u2 : List Int) (B : Nat) (A : Option Addr) (e : Nat) (L : List (Int × Int)) (S : Nat → Prop) (w0 : World) (hS : (E.HP.bag [E.HP.blk B 44 [.slice A (L).length e], E.HP.row 30 2 A (L).length e (E.pairs (L))]).sem S w0) (hb : ∀ k, S k → k < w0.heap.size) (hX : E.Rd w0 (E.Fm w0 S) A1 (E.ints u1)) (hY : E.Rd w0 (E.Fm w0 S) A2 (E.ints u2)) (hu1 : u1.length ≤ 3) (hu2 : u2.length ≤ 3) (hLl : L.length ≤ 100) :
    Calls Try.prog 67 #[.slice A1 u1.length c1, .slice A2 u2.length c2, .pointer (some ⟨B, 0, none⟩)] w0 (E.Post w0 (E.Fm w0 S) fun v Hn => ∃ A3 e3, Hn = [E.HP.blk B 44 [.slice A3 (L ++ Rt.prs u1 u2).length e3], E.HP.row 30 2 A3 (L ++ Rt.prs u1 u2).length e3 (E.pairs (L ++ Rt.prs u1 u2))]) := by
  refine E.calls_of (vs := [.slice A1 u1.length c1, .slice A2 u2.length c2, .pointer (some ⟨B, 0, none⟩)]) (H := [E.HP.bag [E.HP.blk B 44 [.slice A (L).length e], E.HP.row 30 2 A (L).length e (E.pairs (L))]]) Try.func67 Try.ntmps67 rfl rfl (E.HA.startM hS hb) ?_
  refine E.CW.seq ?_
  refine E.CW.open 0 rfl ?_
  refine E.CW.region ?_
  refine E.OW.pure rfl rfl rfl (E.PV.move rfl rfl) ?_
  refine E.OW.pure rfl rfl rfl (E.PV.len Try.underlying31 rfl rfl) ?_
  refine E.OW.pure rfl rfl rfl (E.PV.move rfl rfl) ?_
  refine E.OW.nil ?_
  refine E.then_n ?_
  refine E.CW.block ?_
  refine E.CW.loopk [1, 2, 9, 10] 2 rfl rfl (fun mm mods Hm => ∃ i : Nat, ∃ A : Option Addr, ∃ e : Nat, mm = u1.length - i ∧ mods = [(11, .int .i64 i)] ∧ Hm = [E.HP.blk B 44 [.slice A (L ++ Rt.prs (u1.take i) u2).length e], E.HP.row 30 2 A (L ++ Rt.prs (u1.take i) u2).length e (E.pairs (L ++ Rt.prs (u1.take i) u2))] ∧ i ≤ u1.length) (u1.length) ?_ ?_
  · exact ⟨[(11, _)], (by repeat (first | exact E.cov_nil | refine ⟨rfl, ?_⟩)), 0, A, e, rfl, rfl, (by simp [Rt.prs]), by omega⟩
  · rintro _ _ _ ⟨i, A, e, rfl, rfl, rfl, hi⟩
    refine E.CW.seq ?_
    refine E.CW.region ?_
    refine E.OW.pure rfl rfl rfl (E.PV.lss rfl rfl rfl) ?_
    refine E.OW.nil ?_
    refine E.then_n ?_
    refine E.CW.seq ?_
    refine E.CW.cond rfl (fun hc => ?_) (fun hc => ?_)
    · simp only [E.b0, E.b1, E.b2, E.b3, E.b4, E.b5, E.b6, E.b7, E.b8, E.b9, E.b10, E.b11, E.b12, E.b13, E.b14, E.b15, E.b16, E.b17, E.b18, E.b19, E.b20, reduceCtorEq] at hc
      all_goals (
        refine E.CW.skip ?_
        refine E.then_n ?_
        refine E.CW.seq ?_
        refine E.CW.block ?_
        refine E.CW.seq ?_
        refine E.CW.region ?_
        refine E.OW.pure rfl rfl rfl (E.PV.indexAddr1 (E.rdc hX) Try.underlying31 in3 rfl rfl rfl rfl ?_ ?_) ?_; (focus (first | (simp; done) | (simp; omega))); (focus (omega))
        refine E.OW.pure rfl rfl rfl (E.PV.load_int (E.rdc hX) na3 rfl rfl ?_) ?_; (focus (omega))
        refine E.OW.pure rfl rfl rfl (E.PV.assign rfl rfl) ?_
        refine E.OW.nil ?_
        refine E.then_n ?_
        refine E.CW.seq ?_
        refine E.CW.region ?_
        refine E.OW.pure rfl rfl rfl (E.PV.move rfl rfl) ?_
        refine E.OW.pure rfl rfl rfl (E.PV.len Try.underlying31 rfl rfl) ?_
        refine E.OW.pure rfl rfl rfl (E.PV.move rfl rfl) ?_
        refine E.OW.nil ?_
        refine E.then_n ?_
        refine E.CW.block ?_
        refine E.CW.loopk [1, 2, 6, 9, 10, 11, 15, 16] 2 rfl rfl (fun mm mods Hm => ∃ j : Nat, ∃ A : Option Addr, ∃ e : Nat, mm = u2.length - j ∧ mods = [(17, .int .i64 j)] ∧ Hm = [E.HP.blk B 44 [.slice A ((L ++ Rt.prs (u1.take i) u2) ++ (u2.take j).map fun q => (u1.getD i 0, q)).length e], E.HP.row 30 2 A ((L ++ Rt.prs (u1.take i) u2) ++ (u2.take j).map fun q => (u1.getD i 0, q)).length e (E.pairs ((L ++ Rt.prs (u1.take i) u2) ++ (u2.take j).map fun q => (u1.getD i 0, q)))] ∧ j ≤ u2.length) (u2.length) ?_ ?_
        · exact ⟨[(17, _)], (by repeat (first | exact E.cov_nil | refine ⟨rfl, ?_⟩)), 0, A, e, rfl, rfl, (by simp), by omega⟩
        · rintro _ _ _ ⟨j, A, e, rfl, rfl, rfl, hj⟩
          have hpl := Rt.prs_len (u1.take i) u2
          have hti : (u1.take i).length = i := by rw [List.length_take]; omega
          rw [hti] at hpl
          have hmul := Nat.mul_le_mul (show i ≤ 3 by omega) hu2
          have htj : ((u2.take j).map fun q => (u1.getD i 0, q)).length = j := by rw [List.length_map, List.length_take]; omega
          have hXl : ((L ++ Rt.prs (u1.take i) u2) ++ (u2.take j).map fun q => (u1.getD i 0, q)).length = L.length + (Rt.prs (u1.take i) u2).length + j := by rw [List.length_append, List.length_append, htj]
          refine E.CW.seq ?_
          refine E.CW.region ?_
          refine E.OW.pure rfl rfl rfl (E.PV.lss rfl rfl rfl) ?_
          refine E.OW.nil ?_
          refine E.then_n ?_
          refine E.CW.seq ?_
          refine E.CW.cond rfl (fun hc => ?_) (fun hc => ?_)
          · simp only [E.b0, E.b1, E.b2, E.b3, E.b4, E.b5, E.b6, E.b7, E.b8, E.b9, E.b10, E.b11, E.b12, E.b13, E.b14, E.b15, E.b16, E.b17, E.b18, E.b19, E.b20, reduceCtorEq] at hc
            all_goals (
              refine E.CW.skip ?_
              refine E.then_n ?_
              refine E.CW.seq ?_
              refine E.CW.block ?_
              refine E.CW.seq ?_
              refine E.CW.region ?_
              refine E.OW.pure rfl rfl rfl (E.PV.indexAddr1 (E.rdc hY) Try.underlying31 in3 rfl rfl rfl rfl ?_ ?_) ?_; (focus (first | (simp; done) | (simp; omega))); (focus (omega))
              refine E.OW.pure rfl rfl rfl (E.PV.load_int (E.rdc hY) na3 rfl rfl ?_) ?_; (focus (omega))
              refine E.OW.pure rfl rfl rfl (E.PV.assign rfl rfl) ?_
              refine E.OW.nil ?_
              refine E.then_n ?_
              refine E.CW.region ?_
              refine E.OW.pure rfl rfl rfl (E.PV.load (i := 0) na44 rfl rfl rfl rfl) ?_
              refine E.OW.pure rfl rfl rfl (E.PV.move rfl rfl) ?_
              refine E.OW.pure rfl rfl rfl (E.PV.move rfl rfl) ?_
              refine E.OW.pure rfl rfl rfl (E.PV.build (ps := [(0, .tmp 22), (1, .tmp 23)]) rfl rfl (fun w => bld30_0_1 _ _ w)) ?_
              refine E.OW.buildSlice (Et := 30) (sz := 2) (ps := [(0, .tmp 24)]) rfl rfl rfl rfl rfl (by simp) (by unfold maxLen; omega) (fun w => bsl44_1_0 _ _ w) (fun A1 => ?_)
              refine E.OW.append (i := 2) Try.underlying44 in30 rfl rfl (by decide) rfl rfl rfl rfl rfl rfl rfl (E.rdr (i := 0) rfl) ?_ ?_ ?_ ?_ (fun A2 c2 => ?_); (focus ((first | rfl | (simp; done) | omega))); (focus ((first | exact E.ints_one | exact E.u8s_one | (simp [Value.oneCell']; done)))); (focus ((unfold maxLen; omega))); (focus ((first | omega | (simp only [List.length_append, List.length_cons, List.length_nil] at *; omega) | (unfold maxLen at *; omega))))
              refine E.OW.store (i := 2) in44.size rfl rfl rfl rfl rfl rfl rfl rfl rfl ?_
              refine E.OW.nil ?_
              refine E.blk_n ?_
              refine E.then_n ?_
              refine E.CW.region ?_
              refine E.OW.pure rfl rfl rfl (E.PV.add_i64 rfl rfl rfl ?_) ?_; (focus (omega))
              refine E.OW.pure rfl rfl rfl (E.PV.move rfl rfl) ?_
              refine E.OW.nil ?_
              refine E.then_nf ?_
              refine ⟨_, [(17, _)], [0, 0], [_, _], ?_, by repeat (first | exact E.cov_nil | refine ⟨rfl, ?_⟩), rfl, j + 1, _, _, rfl, rfl, (by rw [Rt.map_snoc (by omega), ← E.lgs_snoc]), by omega⟩
              omega)
          · simp only [E.b0, E.b1, E.b2, E.b3, E.b4, E.b5, E.b6, E.b7, E.b8, E.b9, E.b10, E.b11, E.b12, E.b13, E.b14, E.b15, E.b16, E.b17, E.b18, E.b19, E.b20, reduceCtorEq] at hc
            all_goals (
              refine E.CW.exit ?_
              refine E.then_x ?_
              refine E.then_x ?_
              refine E.blk_eq ?_
              refine E.blk_n ?_
              refine E.then_n ?_
              refine E.CW.region ?_
              refine E.OW.pure rfl rfl rfl (E.PV.add_i64 rfl rfl rfl ?_) ?_; (focus (omega))
              refine E.OW.pure rfl rfl rfl (E.PV.move rfl rfl) ?_
              refine E.OW.nil ?_
              refine E.then_nf ?_
              refine ⟨_, [(11, _)], [0, 0], [_, _], ?_, by repeat (first | exact E.cov_nil | refine ⟨rfl, ?_⟩), rfl, i + 1, _, _, rfl, rfl, (by rw [show u2.take j = u2 from List.take_of_length_le (by omega), Rt.prs_succ (by omega), ← List.append_assoc]), by omega⟩
              omega))
    · simp only [E.b0, E.b1, E.b2, E.b3, E.b4, E.b5, E.b6, E.b7, E.b8, E.b9, E.b10, E.b11, E.b12, E.b13, E.b14, E.b15, E.b16, E.b17, E.b18, E.b19, E.b20, reduceCtorEq] at hc
      all_goals (
        refine E.CW.exit ?_
        refine E.then_x ?_
        refine E.then_x ?_
        refine E.blk_eq ?_
        refine (E.KR.zero [0, 0] Try.results67 rfl ?_).1
        obtain rfl : i = u1.length := by omega
        rw [List.take_length]
        exact ⟨_, _, rfl⟩)

set_option maxRecDepth 100000 in
theorem Lg_ok (g : E.Cfg) (t : Int) (w0 : World) (hg : g.rd w0 (E.Old w0)) (hgf : g.q.fit) :
    Calls Try.prog 25 #[g.v, .int .i64 t] w0 (E.Post w0 (E.Old w0) fun v Hn => ∃ A2 c2, v = .tuple #[.slice A2 (Rt.legsR g.q t).1.length c2, .int .i64 (Rt.legsR g.q t).2] ∧ Hn = [E.HP.row 30 2 A2 (Rt.legsR g.q t).1.length c2 (E.pairs (Rt.legsR g.q t).1)]) := by
  obtain ⟨hX1, hX2, hX3, hX4⟩ := id hg
  have hgl := E.Cfg.fit_len hgf
  refine E.calls_of (vs := [g.v, .int .i64 t]) (H := []) Try.func25 Try.ntmps25 rfl rfl (E.HA.start w0) ?_
  refine E.CW.seq ?_
  refine E.CW.region ?_
  refine E.OW.box rfl rfl rfl rfl rfl rfl (fun B1 => ?_)
  refine E.OW.pure rfl rfl rfl (E.PV.assign rfl rfl) ?_
  refine E.OW.pure rfl rfl rfl (E.PV.assign rfl rfl) ?_
  refine E.OW.nil ?_
  refine E.then_n ?_
  refine E.CW.seq ?_
  refine E.CW.seq ?_
  refine E.CW.region ?_
  refine E.OW.pure rfl rfl rfl (E.PV.loads (i := 0) is28 rfl rfl rfl rfl) ?_
  refine E.OW.pure rfl rfl rfl (E.PV.move rfl rfl) ?_
  (refine E.OW.call nm66 rfl rfl rfl rfl rfl rfl _ (fun w hw => Ask_ok g t 0 w ?_ ?_ ?_) ?_; (focus (refine hw.rdC ?_; assumption)); (focus (assumption)); (focus (omega)); rintro _ _ ⟨rfl, rfl⟩)
  refine E.OW.pure rfl rfl rfl (E.PV.assign rfl rfl) ?_
  refine E.OW.nil ?_
  refine E.then_n ?_
  refine E.CW.seq ?_
  refine E.CW.region ?_
  refine E.OW.pure rfl rfl rfl (E.PV.move rfl rfl) ?_
  refine E.OW.pure rfl rfl rfl (E.PV.neq rfl rfl rfl) ?_
  refine E.OW.nil ?_
  refine E.then_n ?_
  refine E.CW.cond rfl (fun hc => ?_) (fun hc => ?_)
  · simp only [E.b0, E.b1, E.b2, E.b3, E.b4, E.b5, E.b6, E.b7, E.b8, E.b9, E.b10, E.b11, E.b12, E.b13, E.b14, E.b15, E.b16, E.b17, E.b18, E.b19, E.b20, reduceCtorEq] at hc
    all_goals (
      refine E.CW.seq ?_
      refine E.CW.nilrow 30 2 ?_
      refine E.CW.region ?_
      refine E.OW.pure rfl rfl rfl (E.PV.move rfl rfl) ?_
      refine E.OW.pure rfl rfl rfl (E.PV.assign rfl rfl) ?_
      refine E.OW.pure rfl rfl rfl (E.PV.assign rfl rfl) ?_
      refine E.OW.nil ?_
      refine E.then_n ?_
      refine E.CW.ret ?_
      refine E.then_ret ?_
      refine E.KR.two [0] Try.results25 rfl rfl rfl ?_
      rw [show Rt.legsR g.q t = ([], Rt.asked g.q t 0) from if_neg (by assumption)]
      exact ⟨none, 0, rfl, rfl⟩)
  · simp only [E.b0, E.b1, E.b2, E.b3, E.b4, E.b5, E.b6, E.b7, E.b8, E.b9, E.b10, E.b11, E.b12, E.b13, E.b14, E.b15, E.b16, E.b17, E.b18, E.b19, E.b20, reduceCtorEq] at hc
    all_goals (
      refine E.CW.skip ?_
      refine E.then_n ?_
      refine E.CW.seq ?_
      have hTn := Rt.asked_ten (show Rt.asked g.q t 0 = 0 by assumption)
      obtain ⟨ht0, ht3, htn⟩ := hTn.ten
      have htl : t.toNat < g.ts.length := by rw [← E.Cfg.ts_len g]; exact htn
      have hmt := hg.m _ (E.Tm.mem htl)
      have hsp : Rt.team g.q t = (g.ts.getD t.toNat E.Tm.z).q := E.Cfg.ts_getD g _
      obtain ⟨⟨_, h3h⟩, ⟨_, h3p⟩, ⟨_, h3d⟩⟩ := hTn.small
      rw [hsp] at h3h h3p h3d
      have hm1 := Nat.mul_le_mul h3h h3p
      have hm2 := Nat.mul_le_mul h3p h3d
      refine E.CW.region ?_
      refine E.OW.alloc (in44.zr) rfl rfl rfl rfl rfl (fun B2 => ?_)
      refine E.OW.nil ?_
      refine E.then_n ?_
      refine E.CW.seq ?_
      refine E.CW.nilrow 30 2 ?_
      refine E.CW.region ?_
      refine E.OW.pure rfl rfl rfl (E.PV.makeFunc (f := .func 67) (fs := []) (cs := [.tmp 7]) rfl rfl rfl) ?_
      refine E.OW.pure rfl rfl rfl (E.PV.assign rfl rfl) ?_
      refine E.OW.nil ?_
      refine E.then_n ?_
      refine E.CW.seq ?_
      refine E.CW.region ?_
      refine E.OW.pure rfl rfl rfl (E.PV.fieldAddr fa28_2 rfl rfl) ?_
      refine E.OW.pure rfl rfl rfl (E.PV.load (i := 2) na25 rfl rfl rfl rfl) ?_
      refine E.OW.pure rfl rfl rfl (E.PV.move rfl rfl) ?_
      refine E.OW.pure rfl rfl rfl (E.PV.indexAddr (E.rdc hX3) Try.underlying25 in79 rfl rfl rfl (E.tn ?_) ?_ ?_ (by decide)) ?_; (focus (omega)); (focus (first | (simp; done) | (simp; omega))); (focus (omega))
      refine E.OW.pure rfl rfl rfl (E.PV.load_tm (E.rdc hX3) is79 rfl rfl ?_) ?_; (focus (omega))
      refine E.OW.alloc (in79.zr) rfl rfl rfl rfl rfl (fun B3 => ?_)
      refine E.OW.store (i := 0) in79.size rfl rfl rfl rfl rfl rfl rfl rfl rfl ?_
      refine E.OW.nil ?_
      refine E.then_n ?_
      refine E.CW.seq ?_
      refine E.CW.gather [2, 1, 0, 0] 2 rfl rfl ?_
      refine E.CW.region ?_
      refine E.OW.pure rfl rfl rfl (E.PV.move rfl rfl) ?_
      refine E.OW.pure rfl rfl rfl (E.PV.fieldAddr fa79_0 rfl rfl) ?_
      refine E.OW.pure rfl rfl rfl (E.PV.load (i := 1) na31 rfl rfl rfl rfl) ?_
      refine E.OW.pure rfl rfl rfl (E.PV.fieldAddr fa79_1 rfl rfl) ?_
      refine E.OW.pure rfl rfl rfl (E.PV.load (i := 1) na31 rfl rfl rfl rfl) ?_
      refine E.OW.callcM nm67 rfl rfl rfl rfl rfl rfl _ 0 rfl (fun w S hw hs hb hc => lg_ok _ _ (g.ts.getD t.toNat E.Tm.z).q.h _ _ (g.ts.getD t.toNat E.Tm.z).q.p B2 _ _ ([]) S w hs (fun k hk => (hb k hk).1) (hw.rdTM hmt hb).1 (hw.rdTM hmt hb).2.1 h3h h3p (by simp only [List.length_nil, List.length_append, Rt.prs_len]; omega)) ?_; rintro _ _ ⟨AL7, eL7, rfl⟩
      refine E.OW.nil ?_
      refine E.then_n ?_
      refine E.CW.seq ?_
      refine E.CW.gather [0, 0, 0, 0] 2 rfl rfl ?_
      refine E.CW.region ?_
      refine E.OW.pure rfl rfl rfl (E.PV.move rfl rfl) ?_
      refine E.OW.pure rfl rfl rfl (E.PV.fieldAddr fa79_1 rfl rfl) ?_
      refine E.OW.pure rfl rfl rfl (E.PV.load (i := 1) na31 rfl rfl rfl rfl) ?_
      refine E.OW.pure rfl rfl rfl (E.PV.fieldAddr fa79_2 rfl rfl) ?_
      refine E.OW.pure rfl rfl rfl (E.PV.load (i := 1) na31 rfl rfl rfl rfl) ?_
      refine E.OW.callcM nm67 rfl rfl rfl rfl rfl rfl _ 0 rfl (fun w S hw hs hb hc => lg_ok _ _ (g.ts.getD t.toNat E.Tm.z).q.p _ _ (g.ts.getD t.toNat E.Tm.z).q.d B2 _ _ ([] ++ Rt.prs (g.ts.getD t.toNat E.Tm.z).q.h (g.ts.getD t.toNat E.Tm.z).q.p) S w hs (fun k hk => (hb k hk).1) (hw.rdTM hmt hb).2.1 (hw.rdTM hmt hb).2.2 h3p h3d (by simp only [List.length_nil, List.length_append, Rt.prs_len]; omega)) ?_; rintro _ _ ⟨AL8, eL8, rfl⟩
      refine E.OW.nil ?_
      refine E.then_n ?_
      refine E.CW.seq ?_
      refine E.CW.gather [0, 0, 0, 0] 2 rfl rfl ?_
      refine E.CW.region ?_
      refine E.OW.pure rfl rfl rfl (E.PV.move rfl rfl) ?_
      refine E.OW.pure rfl rfl rfl (E.PV.fieldAddr fa79_2 rfl rfl) ?_
      refine E.OW.pure rfl rfl rfl (E.PV.load (i := 1) na31 rfl rfl rfl rfl) ?_
      refine E.OW.pure rfl rfl rfl (E.PV.fieldAddr fa79_0 rfl rfl) ?_
      refine E.OW.pure rfl rfl rfl (E.PV.load (i := 1) na31 rfl rfl rfl rfl) ?_
      refine E.OW.callcM nm67 rfl rfl rfl rfl rfl rfl _ 0 rfl (fun w S hw hs hb hc => lg_ok _ _ (g.ts.getD t.toNat E.Tm.z).q.d _ _ (g.ts.getD t.toNat E.Tm.z).q.h B2 _ _ ([] ++ Rt.prs (g.ts.getD t.toNat E.Tm.z).q.h (g.ts.getD t.toNat E.Tm.z).q.p ++ Rt.prs (g.ts.getD t.toNat E.Tm.z).q.p (g.ts.getD t.toNat E.Tm.z).q.d) S w hs (fun k hk => (hb k hk).1) (hw.rdTM hmt hb).2.2 (hw.rdTM hmt hb).1 h3d h3h (by simp only [List.length_nil, List.length_append, Rt.prs_len]; omega)) ?_; rintro _ _ ⟨AL9, eL9, rfl⟩
      refine E.OW.nil ?_
      refine E.then_n ?_
      refine E.CW.seq ?_
      refine E.CW.region ?_
      refine E.OW.pure rfl rfl rfl (E.PV.load (i := 0) na44 rfl rfl rfl rfl) ?_
      refine E.OW.pure rfl rfl rfl (E.PV.assign rfl rfl) ?_
      refine E.OW.pure rfl rfl rfl (E.PV.assign rfl rfl) ?_
      refine E.OW.nil ?_
      refine E.then_n ?_
      refine E.CW.ret ?_
      refine E.KR.two [1] Try.results25 rfl rfl rfl ?_
      rw [show Rt.legsR g.q t = ([] ++ Rt.prs (g.ts.getD t.toNat E.Tm.z).q.h (g.ts.getD t.toNat E.Tm.z).q.p ++ Rt.prs (g.ts.getD t.toNat E.Tm.z).q.p (g.ts.getD t.toNat E.Tm.z).q.d ++ Rt.prs (g.ts.getD t.toNat E.Tm.z).q.d (g.ts.getD t.toNat E.Tm.z).q.h, 0) from by rw [show Rt.legsR g.q t = (Rt.legs (Rt.team g.q t), 0) from if_pos (by assumption), hsp]; rfl]
      exact ⟨_, _, rfl, rfl⟩)
end Go.Proofs.Ytflkbabhbnmajaa

/- Closed facts on the program (printed by gen.py). -/
namespace Go.Proofs.Ytflkbabhbnmajaa
open Go Go.RowKit
set_option linter.unusedSimpArgs false
set_option linter.unusedVariables false
theorem nm25 : E.Nm Try.prog 25 := ⟨Try.f25, Try.func25, rfl, by kernel_rfl⟩
theorem nm42 : E.Nm Try.prog 42 := ⟨Try.f42, Try.func42, rfl, by kernel_rfl⟩
theorem nm43 : E.Nm Try.prog 43 := ⟨Try.f43, Try.func43, rfl, by kernel_rfl⟩
theorem nm55 : E.Nm Try.prog 55 := ⟨Try.f55, Try.func55, rfl, by kernel_rfl⟩
theorem nm88 : E.Nm Try.prog 88 := ⟨Try.f88, Try.func88, rfl, by kernel_rfl⟩
end Go.Proofs.Ytflkbabhbnmajaa

/- Walks (printed by gen.py). -/
namespace Go.Proofs.Ytflkbabhbnmajaa
open Go Go.RowKit
set_option linter.unusedSimpArgs false
set_option linter.unusedVariables false

set_option maxRecDepth 100000 in
theorem lo_ok (g : E.Cfg) (t : Int) (w0 : World) (hg : g.rd w0 (E.Old w0)) (hgf : g.q.fit) (hTn : Rt.Ten g.q t) :
    Calls Try.prog 88 #[g.v, .int .i64 t] w0 (E.Post w0 (E.Old w0) fun v Hn => v = .int .i64 (Rt.most g.q t) ∧ Hn = []) := by
  obtain ⟨hX1, hX2, hX3, hX4⟩ := id hg
  have hgl := E.Cfg.fit_len hgf
  have hlr : (Rt.legsR g.q t).1 = (Rt.legs (Rt.team g.q t)) := congrArg Prod.fst (show Rt.legsR g.q t = (Rt.legs (Rt.team g.q t), 0) from if_pos (Rt.asked_ok hTn.c hTn.p (by omega)))
  have hll := hTn.legs_len
  refine E.calls_of (vs := [g.v, .int .i64 t]) (H := []) Try.func88 Try.ntmps88 rfl rfl (E.HA.start w0) ?_
  refine E.CW.seq ?_
  refine E.CW.region ?_
  refine E.OW.box rfl rfl rfl rfl rfl rfl (fun B1 => ?_)
  refine E.OW.pure rfl rfl rfl (E.PV.assign rfl rfl) ?_
  refine E.OW.nil ?_
  refine E.then_n ?_
  refine E.CW.seq ?_
  refine E.CW.region ?_
  refine E.OW.pure rfl rfl rfl (E.PV.loads (i := 0) is28 rfl rfl rfl rfl) ?_
  refine E.OW.pure rfl rfl rfl (E.PV.move rfl rfl) ?_
  (refine E.OW.call nm25 rfl rfl rfl rfl rfl rfl _ (fun w hw => Lg_ok _ _ w ?_ ?_) ?_; (focus (refine hw.rdC ?_; assumption)); (focus (assumption)); rintro _ _ ⟨ALg, cLg, rfl, rfl⟩)
  refine E.OW.pure rfl rfl rfl (E.PV.move rfl rfl) ?_
  refine E.OW.pure rfl rfl rfl (E.PV.extract rfl rfl rfl) ?_
  refine E.OW.pure rfl rfl rfl (E.PV.extract rfl rfl rfl) ?_
  refine E.OW.pure rfl rfl rfl (E.PV.assign rfl rfl) ?_
  refine E.OW.pure rfl rfl rfl (E.PV.assign rfl rfl) ?_
  refine E.OW.nil ?_
  refine E.then_n ?_
  refine E.CW.seq ?_
  rw [hlr]
  refine E.CW.region ?_
  refine E.OW.pure rfl rfl rfl (E.PV.assign rfl rfl) ?_
  refine E.OW.nil ?_
  refine E.then_n ?_
  refine E.CW.seq ?_
  refine E.CW.seq ?_
  refine E.CW.region ?_
  refine E.OW.pure rfl rfl rfl (E.PV.move rfl rfl) ?_
  refine E.OW.pure rfl rfl rfl (E.PV.len Try.underlying44 rfl rfl) ?_
  refine E.OW.pure rfl rfl rfl (E.PV.move rfl rfl) ?_
  refine E.OW.nil ?_
  refine E.then_n ?_
  refine E.CW.block ?_
  refine E.CW.loopk [1, 2, 18, 19] 0 rfl rfl (fun mm mods Hm => ∃ i : Nat, mm = (Rt.legs (Rt.team g.q t)).length - i ∧ mods = [(20, .int .i64 i), (7, .int .i64 (Rt.mxl (Rt.vals g.q t i 0)))] ∧ Hm = [] ∧ (i ≤ (Rt.legs (Rt.team g.q t)).length ∧ ∀ v ∈ Rt.vals g.q t i 0, 0 ≤ v)) ((Rt.legs (Rt.team g.q t)).length) ?_ ?_
  · exact ⟨[(20, _), (7, _)], (by repeat (first | exact E.cov_nil | refine ⟨rfl, ?_⟩)), 0, rfl, (by rw [Rt.vals_zero]; rfl), rfl, by omega, fun v hv => by rw [Rt.vals_zero] at hv; cases hv⟩
  · rintro _ _ _ ⟨i, rfl, rfl, rfl, hi, hI⟩
    refine E.CW.seq ?_
    refine E.CW.region ?_
    refine E.OW.pure rfl rfl rfl (E.PV.lss rfl rfl rfl) ?_
    refine E.OW.nil ?_
    refine E.then_n ?_
    refine E.CW.seq ?_
    refine E.CW.cond rfl (fun hc => ?_) (fun hc => ?_)
    · simp only [E.b0, E.b1, E.b2, E.b3, E.b4, E.b5, E.b6, E.b7, E.b8, E.b9, E.b10, E.b11, E.b12, E.b13, E.b14, E.b15, E.b16, E.b17, E.b18, E.b19, E.b20, reduceCtorEq] at hc
      all_goals (
        refine E.CW.skip ?_
        refine E.then_n ?_
        refine E.CW.seq ?_
        refine E.CW.block ?_
        refine E.CW.seq ?_
        have hmem := Rt.legs_at (m := Rt.team g.q t) (i := i) (by omega)
        refine E.CW.region ?_
        refine E.OW.pure rfl rfl rfl (E.PV.indexAddr (E.rdr (i := 0) rfl) Try.underlying44 in30 rfl rfl rfl rfl ?_ ?_ (by decide)) ?_; (focus (first | (simp; done) | (simp; omega))); (focus (omega))
        refine E.OW.pure rfl rfl rfl (E.PV.load_pair (E.rdr (i := 0) rfl) is30 rfl rfl ?_) ?_; (focus (omega))
        refine E.OW.alloc (in30.zr) rfl rfl rfl rfl rfl (fun B2 => ?_)
        refine E.OW.store (i := 0) in30.size rfl rfl rfl rfl rfl rfl rfl rfl rfl ?_
        refine E.OW.nil ?_
        refine E.then_n ?_
        refine E.CW.seq ?_
        obtain ⟨x, hx⟩ : ∃ x, (Rt.legs (Rt.team g.q t)).getD i (0, 0) = x := ⟨_, rfl⟩
        rw [hx] at hmem ⊢
        have hL : Rt.Leg g.q t x.1 x.2 := hTn.leg hmem
        refine E.CW.region ?_
        refine E.OW.pure rfl rfl rfl (E.PV.loads (i := 2) is28 rfl rfl rfl rfl) ?_
        refine E.OW.pure rfl rfl rfl (E.PV.move rfl rfl) ?_
        refine E.OW.pure rfl rfl rfl (E.PV.loads (i := 0) is30 rfl rfl rfl rfl) ?_
        (refine E.OW.call nm59 rfl rfl rfl rfl rfl rfl _ (fun w hw => np_ok g t x.1 x.2 w ?_ ?_ ?_) ?_; (focus (refine hw.rdC ?_; assumption)); (focus (assumption)); (focus (assumption)); rintro _ _ ⟨yP, DP, rfl, rfl, hyx, hyD⟩)
        refine E.OW.pure rfl rfl rfl (E.PV.nilCheck rfl rfl) ?_
        refine E.OW.pure rfl rfl rfl (E.PV.fieldAddr fa93_3 rfl rfl) ?_
        refine E.OW.pure rfl rfl rfl (E.PV.load_at (E.p_b (E.sr0p (i := 0) rfl)) na91 rfl rfl rfl) ?_
        refine E.OW.pure rfl rfl rfl (E.PV.len Try.underlying91 rfl rfl) ?_
        refine E.OW.pure rfl rfl rfl (E.PV.move rfl rfl) ?_
        refine E.OW.nil ?_
        have hyn : yP.x.n = g.l.length := by rw [hyx]; rfl
        have hyK : yP.x.K = g.s.length := by rw [hyx]; rfl
        have hn64 : g.l.length ≤ 64 := Rt.len_le hL.c
        have hs16 : 1 ≤ g.s.length ∧ g.s.length ≤ 16 := Rt.per_of hL.c
        have hra : 0 ≤ x.1 ∧ x.1 < (g.l.length : Int) := hL.ra
        have hok : yP.x.ok := by rw [hyx]; exact Rt.G_ok hL
        refine E.then_n ?_
        refine E.CW.block ?_
        refine E.CW.loopk [1, 2, 9, 18, 19, 20, 30, 31] 0 rfl rfl (fun mm mods Hm => ∃ k : Nat, mm = yP.x.K - k ∧ mods = [(32, .int .i64 k), (7, .int .i64 (Rt.mxl (Rt.vals g.q t i k)))] ∧ Hm = [] ∧ (k ≤ yP.x.K ∧ ∀ v ∈ Rt.vals g.q t i k, 0 ≤ v)) (yP.x.K) ?_ ?_
        · exact ⟨[(32, _), (7, _)], (by repeat (first | exact E.cov_nil | refine ⟨rfl, ?_⟩)), 0, rfl, rfl, rfl, by omega, hI⟩
        · rintro _ _ _ ⟨k, rfl, rfl, rfl, hk, hJ⟩
          refine E.CW.seq ?_
          refine E.CW.region ?_
          refine E.OW.pure rfl rfl rfl (E.PV.lss rfl rfl rfl) ?_
          refine E.OW.nil ?_
          refine E.then_n ?_
          refine E.CW.seq ?_
          refine E.CW.cond rfl (fun hc => ?_) (fun hc => ?_)
          · simp only [E.b0, E.b1, E.b2, E.b3, E.b4, E.b5, E.b6, E.b7, E.b8, E.b9, E.b10, E.b11, E.b12, E.b13, E.b14, E.b15, E.b16, E.b17, E.b18, E.b19, E.b20, reduceCtorEq] at hc
            all_goals (
              refine E.CW.skip ?_
              refine E.then_n ?_
              refine E.CW.seq ?_
              refine E.CW.block ?_
              refine E.CW.seq ?_
              refine E.CW.region ?_
              refine E.OW.pure rfl rfl rfl (E.PV.indexAddr1 (E.p_d (E.sr0p (i := 0) rfl)) Try.underlying91 in31 rfl rfl rfl rfl ?_ ?_) ?_; (focus (first | (simp; done) | (simp; omega))); (focus (omega))
              refine E.OW.pure rfl rfl rfl (E.PV.load_sc (E.p_d (E.sr0p (i := 0) rfl)) na31 rfl rfl ?_) ?_; (focus (omega))
              refine E.OW.pure rfl rfl rfl (E.PV.assign rfl rfl) ?_
              refine E.OW.nil ?_
              refine E.then_n ?_
              refine E.CW.seq ?_
              refine E.CW.seq ?_
              have hD := Rt.plan_at hL hyx hyD (k := k) (by omega)
              have hvm := Rt.vals_mem (g := g.q) (t := t) (i := i) (k := k) (by omega) (show k < g.s.length by omega)
              rw [hx, ← hD] at hvm
              have hvs := Rt.vals_step (g := g.q) (t := t) (i := i) (k := k) (show k < g.s.length by omega)
              rw [hx, ← hD] at hvs
              refine E.CW.region ?_
              refine E.OW.pure rfl rfl rfl (E.PV.move rfl rfl) ?_
              refine E.OW.pure rfl rfl rfl (E.PV.fieldAddr fa30_0 rfl rfl) ?_
              refine E.OW.pure rfl rfl rfl (E.PV.load (i := 1) na3 rfl rfl rfl rfl) ?_
              refine E.OW.pure rfl rfl rfl (E.PV.indexAddr1 (E.p_dr (E.srdp (i := 0) rfl) ?_) Try.underlying31 in3 rfl rfl rfl (E.tn ?_) ?_ ?_) ?_; (focus (omega)); (focus (omega)); (focus (first | (simp; done) | (simp; omega))); (focus (omega))
              refine E.OW.pure rfl rfl rfl (E.PV.load_ii (E.p_dr (E.srdp (i := 0) rfl) ?_) na3 rfl rfl ?_) ?_; (focus (omega)); (focus (omega))
              refine E.OW.pure rfl rfl rfl (E.PV.lss rfl rfl rfl) ?_
              refine E.OW.nil ?_
              refine E.then_n ?_
              refine E.CW.cond rfl (fun hc => ?_) (fun hc => ?_)
              · simp only [E.b0, E.b1, E.b2, E.b3, E.b4, E.b5, E.b6, E.b7, E.b8, E.b9, E.b10, E.b11, E.b12, E.b13, E.b14, E.b15, E.b16, E.b17, E.b18, E.b19, E.b20, reduceCtorEq] at hc
                all_goals (
                  refine E.CW.seq ?_
                  refine E.CW.region ?_
                  refine E.OW.pure rfl rfl rfl (E.PV.assign rfl rfl) ?_
                  refine E.OW.nil ?_
                  refine E.then_n ?_
                  refine E.CW.ret ?_
                  refine E.then_ret ?_
                  refine E.blk_ret ?_
                  refine E.then_ret ?_
                  refine E.then_ret ?_
                  refine E.blk_ret ?_
                  refine E.blk_ret ?_
                  refine E.then_ret ?_
                  refine E.then_ret ?_
                  refine E.blk_ret ?_
                  refine E.then_ret ?_
                  refine E.KR.one [] Try.results88 rfl rfl ?_
                  exact ⟨by rw [Rt.most_neg hvm (by omega)], rfl⟩)
              · simp only [E.b0, E.b1, E.b2, E.b3, E.b4, E.b5, E.b6, E.b7, E.b8, E.b9, E.b10, E.b11, E.b12, E.b13, E.b14, E.b15, E.b16, E.b17, E.b18, E.b19, E.b20, reduceCtorEq] at hc
                all_goals (
                  refine E.CW.skip ?_
                  refine E.then_n ?_
                  refine E.CW.region ?_
                  refine E.OW.pure rfl rfl rfl (E.PV.move rfl rfl) ?_
                  refine E.OW.pure rfl rfl rfl (E.PV.move rfl rfl) ?_
                  refine E.OW.pure rfl rfl rfl (E.PV.fieldAddr fa30_0 rfl rfl) ?_
                  refine E.OW.pure rfl rfl rfl (E.PV.load (i := 1) na3 rfl rfl rfl rfl) ?_
                  refine E.OW.pure rfl rfl rfl (E.PV.indexAddr1 (E.p_dr (E.srdp (i := 0) rfl) ?_) Try.underlying31 in3 rfl rfl rfl (E.tn ?_) ?_ ?_) ?_; (focus (omega)); (focus (omega)); (focus (first | (simp; done) | (simp; omega))); (focus (omega))
                  refine E.OW.pure rfl rfl rfl (E.PV.load_ii (E.p_dr (E.srdp (i := 0) rfl) ?_) na3 rfl rfl ?_) ?_; (focus (omega)); (focus (omega))
                  refine E.OW.pure rfl rfl rfl (E.PV.max rfl rfl rfl) ?_
                  refine E.OW.pure rfl rfl rfl (E.PV.assign rfl rfl) ?_
                  refine E.OW.nil ?_
                  refine E.blk_n ?_
                  refine E.then_n ?_
                  refine E.CW.region ?_
                  refine E.OW.pure rfl rfl rfl (E.PV.add_i64 rfl rfl rfl ?_) ?_; (focus (omega))
                  refine E.OW.pure rfl rfl rfl (E.PV.move rfl rfl) ?_
                  refine E.OW.nil ?_
                  refine E.then_nf ?_
                  refine ⟨_, [(32, _), (7, _)], [0, 0, 0, 0], _, ?_, by repeat (first | exact E.cov_nil | refine ⟨rfl, ?_⟩), rfl, k + 1, rfl, (by rw [hvs, Rt.mxl_snoc]; rfl), rfl, by omega, (by rw [hvs]; exact Rt.nn_app hJ (by omega))⟩
                  omega))
          · simp only [E.b0, E.b1, E.b2, E.b3, E.b4, E.b5, E.b6, E.b7, E.b8, E.b9, E.b10, E.b11, E.b12, E.b13, E.b14, E.b15, E.b16, E.b17, E.b18, E.b19, E.b20, reduceCtorEq] at hc
            all_goals (
              refine E.CW.exit ?_
              refine E.then_x ?_
              refine E.then_x ?_
              refine E.blk_eq ?_
              refine E.blk_n ?_
              refine E.then_n ?_
              refine E.CW.region ?_
              refine E.OW.pure rfl rfl rfl (E.PV.add_i64 rfl rfl rfl ?_) ?_; (focus (omega))
              refine E.OW.pure rfl rfl rfl (E.PV.move rfl rfl) ?_
              refine E.OW.nil ?_
              refine E.then_nf ?_
              refine ⟨_, [(20, _), (7, _)], [2, 2], _, ?_, by repeat (first | exact E.cov_nil | refine ⟨rfl, ?_⟩), rfl, i + 1, rfl, (by rw [Rt.vals_row (by omega) (show g.q.s.length ≤ k by show g.s.length ≤ k; omega)]; rfl), rfl, by omega, (by rw [← Rt.vals_row (by omega) (show g.q.s.length ≤ k by show g.s.length ≤ k; omega)]; exact hJ)⟩
              omega))
    · simp only [E.b0, E.b1, E.b2, E.b3, E.b4, E.b5, E.b6, E.b7, E.b8, E.b9, E.b10, E.b11, E.b12, E.b13, E.b14, E.b15, E.b16, E.b17, E.b18, E.b19, E.b20, reduceCtorEq] at hc
      all_goals (
        refine E.CW.exit ?_
        refine E.then_x ?_
        refine E.then_x ?_
        refine E.blk_eq ?_
        refine E.then_n ?_
        refine E.CW.seq ?_
        refine E.CW.region ?_
        refine E.OW.pure rfl rfl rfl (E.PV.move rfl rfl) ?_
        refine E.OW.pure rfl rfl rfl (E.PV.assign rfl rfl) ?_
        refine E.OW.nil ?_
        refine E.then_n ?_
        refine E.CW.ret ?_
        refine E.KR.one [] Try.results88 rfl rfl ?_
        rw [Rt.vals_all (by omega)] at hI ⊢
        exact ⟨by rw [Rt.most_pos hI], rfl⟩)

set_option maxRecDepth 100000 in
theorem So_ok (g : E.Cfg) (w0 : World) (hg : g.rd w0 (E.Old w0)) (hgf : g.q.fit) :
    Calls Try.prog 42 #[g.v] w0 (E.Post w0 (E.Old w0) fun v Hn => v = .int .i64 (Rt.soundR g.q) ∧ Hn = []) := by
  obtain ⟨hX1, hX2, hX3, hX4⟩ := id hg
  have hgl := E.Cfg.fit_len hgf
  refine E.calls_of (vs := [g.v]) (H := []) Try.func42 Try.ntmps42 rfl rfl (E.HA.start w0) ?_
  refine E.CW.seq ?_
  refine E.CW.region ?_
  refine E.OW.box rfl rfl rfl rfl rfl rfl (fun B1 => ?_)
  refine E.OW.pure rfl rfl rfl (E.PV.assign rfl rfl) ?_
  refine E.OW.nil ?_
  refine E.then_n ?_
  refine E.CW.seq ?_
  refine E.CW.seq ?_
  refine E.CW.region ?_
  refine E.OW.pure rfl rfl rfl (E.PV.loads (i := 0) is28 rfl rfl rfl rfl) ?_
  (refine E.OW.call nm87 rfl rfl rfl rfl rfl rfl _ (fun w hw => Ck_ok g w ?_ ?_) ?_; (focus (refine hw.rdC ?_; assumption)); (focus (assumption)); rintro _ _ ⟨rfl, rfl⟩)
  refine E.OW.pure rfl rfl rfl (E.PV.assign rfl rfl) ?_
  refine E.OW.nil ?_
  refine E.then_n ?_
  refine E.CW.seq ?_
  refine E.CW.region ?_
  refine E.OW.pure rfl rfl rfl (E.PV.move rfl rfl) ?_
  refine E.OW.pure rfl rfl rfl (E.PV.neq rfl rfl rfl) ?_
  refine E.OW.nil ?_
  refine E.then_n ?_
  refine E.CW.cond rfl (fun hc => ?_) (fun hc => ?_)
  · simp only [E.b0, E.b1, E.b2, E.b3, E.b4, E.b5, E.b6, E.b7, E.b8, E.b9, E.b10, E.b11, E.b12, E.b13, E.b14, E.b15, E.b16, E.b17, E.b18, E.b19, E.b20, reduceCtorEq] at hc
    all_goals (
      refine E.CW.seq ?_
      refine E.CW.region ?_
      refine E.OW.pure rfl rfl rfl (E.PV.move rfl rfl) ?_
      refine E.OW.pure rfl rfl rfl (E.PV.assign rfl rfl) ?_
      refine E.OW.nil ?_
      refine E.then_n ?_
      refine E.CW.ret ?_
      refine E.then_ret ?_
      refine E.KR.one [] Try.results42 rfl rfl ?_
      exact ⟨by rw [Rt.sound_bad (by assumption)], rfl⟩)
  · simp only [E.b0, E.b1, E.b2, E.b3, E.b4, E.b5, E.b6, E.b7, E.b8, E.b9, E.b10, E.b11, E.b12, E.b13, E.b14, E.b15, E.b16, E.b17, E.b18, E.b19, E.b20, reduceCtorEq] at hc
    all_goals (
      refine E.CW.skip ?_
      refine E.then_n ?_
      refine E.CW.seq ?_
      have hcz : Cf.check g.q = 0 := by assumption
      have htn := E.Cfg.ts_len g
      have ht3 := Cf.teams_len (Cf.check_zero hcz).2.2.1
      have htl := Cf.tenants_len g.q.ts g.q.ts.length
      refine E.CW.region ?_
      refine E.OW.pure rfl rfl rfl (E.PV.loads (i := 0) is28 rfl rfl rfl rfl) ?_
      (refine E.OW.call nm55 rfl rfl rfl rfl rfl rfl _ (fun w hw => Tt_ok g w ?_ ?_) ?_; (focus (refine hw.rdC ?_; assumption)); (focus (assumption)); rintro _ _ ⟨AY, cY, rfl, rfl⟩)
      refine E.OW.pure rfl rfl rfl (E.PV.move rfl rfl) ?_
      refine E.OW.pure rfl rfl rfl (E.PV.extract rfl rfl rfl) ?_
      refine E.OW.pure rfl rfl rfl (E.PV.extract rfl rfl rfl) ?_
      refine E.OW.pure rfl rfl rfl (E.PV.assign rfl rfl) ?_
      refine E.OW.pure rfl rfl rfl (E.PV.assign rfl rfl) ?_
      refine E.OW.nil ?_
      refine E.then_n ?_
      refine E.CW.seq ?_
      refine E.CW.seq ?_
      rw [show (Cf.tenantsR g.q).1 = (Cf.tenants g.q.ts g.q.ts.length) from congrArg Prod.fst (Cf.tenants_ok hcz)]
      refine E.CW.region ?_
      refine E.OW.pure rfl rfl rfl (E.PV.move rfl rfl) ?_
      refine E.OW.pure rfl rfl rfl (E.PV.len Try.underlying31 rfl rfl) ?_
      refine E.OW.pure rfl rfl rfl (E.PV.move rfl rfl) ?_
      refine E.OW.nil ?_
      refine E.then_n ?_
      refine E.CW.block ?_
      refine E.CW.loopk [1, 18, 19] 0 rfl rfl (fun mm mods Hm => ∃ i : Nat, mm = (Cf.tenants g.q.ts g.q.ts.length).length - i ∧ mods = [(20, .int .i64 i)] ∧ Hm = [] ∧ (i ≤ (Cf.tenants g.q.ts g.q.ts.length).length ∧ ∀ j, j < i → 0 ≤ Rt.most g.q ((Cf.tenants g.q.ts g.q.ts.length).getD j 0))) ((Cf.tenants g.q.ts g.q.ts.length).length) ?_ ?_
      · exact ⟨[(20, _)], (by repeat (first | exact E.cov_nil | refine ⟨rfl, ?_⟩)), 0, rfl, rfl, rfl, by omega, fun j hj => by omega⟩
      · rintro _ _ _ ⟨i, rfl, rfl, rfl, hi, hI⟩
        refine E.CW.seq ?_
        refine E.CW.region ?_
        refine E.OW.pure rfl rfl rfl (E.PV.lss rfl rfl rfl) ?_
        refine E.OW.nil ?_
        refine E.then_n ?_
        refine E.CW.seq ?_
        refine E.CW.cond rfl (fun hc => ?_) (fun hc => ?_)
        · simp only [E.b0, E.b1, E.b2, E.b3, E.b4, E.b5, E.b6, E.b7, E.b8, E.b9, E.b10, E.b11, E.b12, E.b13, E.b14, E.b15, E.b16, E.b17, E.b18, E.b19, E.b20, reduceCtorEq] at hc
          all_goals (
            refine E.CW.skip ?_
            refine E.then_n ?_
            refine E.CW.seq ?_
            refine E.CW.block ?_
            refine E.CW.seq ?_
            refine E.CW.region ?_
            refine E.OW.pure rfl rfl rfl (E.PV.indexAddr1 (E.rdr (i := 0) rfl) Try.underlying31 in3 rfl rfl rfl rfl ?_ ?_) ?_; (focus (first | (simp; done) | (simp; omega))); (focus (omega))
            refine E.OW.pure rfl rfl rfl (E.PV.load_int (E.rdr (i := 0) rfl) na3 rfl rfl ?_) ?_; (focus (omega))
            refine E.OW.pure rfl rfl rfl (E.PV.assign rfl rfl) ?_
            refine E.OW.nil ?_
            refine E.then_n ?_
            refine E.CW.seq ?_
            refine E.CW.region ?_
            refine E.OW.pure rfl rfl rfl (E.PV.loads (i := 1) is28 rfl rfl rfl rfl) ?_
            refine E.OW.pure rfl rfl rfl (E.PV.move rfl rfl) ?_
            (refine E.OW.call nm88 rfl rfl rfl rfl rfl rfl _ (fun w hw => lo_ok g ((Cf.tenants g.q.ts g.q.ts.length).getD i 0) w ?_ ?_ (Rt.ten_of hcz (by omega))) ?_; (focus (refine hw.rdC ?_; assumption)); (focus (assumption)); rintro _ _ ⟨rfl, rfl⟩)
            refine E.OW.pure rfl rfl rfl (E.PV.lss rfl rfl rfl) ?_
            refine E.OW.nil ?_
            refine E.then_n ?_
            refine E.CW.cond rfl (fun hc => ?_) (fun hc => ?_)
            · simp only [E.b0, E.b1, E.b2, E.b3, E.b4, E.b5, E.b6, E.b7, E.b8, E.b9, E.b10, E.b11, E.b12, E.b13, E.b14, E.b15, E.b16, E.b17, E.b18, E.b19, E.b20, reduceCtorEq] at hc
              all_goals (
                refine E.CW.seq ?_
                refine E.CW.region ?_
                refine E.OW.pure rfl rfl rfl (E.PV.assign rfl rfl) ?_
                refine E.OW.nil ?_
                refine E.then_n ?_
                refine E.CW.ret ?_
                refine E.blk_ret ?_
                refine E.then_ret ?_
                refine E.then_ret ?_
                refine E.blk_ret ?_
                refine E.then_ret ?_
                refine E.KR.one [] Try.results42 rfl rfl ?_
                exact ⟨by rw [Rt.sound_no hcz (i := i) (by omega) (by omega)], rfl⟩)
            · simp only [E.b0, E.b1, E.b2, E.b3, E.b4, E.b5, E.b6, E.b7, E.b8, E.b9, E.b10, E.b11, E.b12, E.b13, E.b14, E.b15, E.b16, E.b17, E.b18, E.b19, E.b20, reduceCtorEq] at hc
              all_goals (
                refine E.CW.skip ?_
                refine E.blk_n ?_
                refine E.then_n ?_
                refine E.CW.region ?_
                refine E.OW.pure rfl rfl rfl (E.PV.add_i64 rfl rfl rfl ?_) ?_; (focus (omega))
                refine E.OW.pure rfl rfl rfl (E.PV.move rfl rfl) ?_
                refine E.OW.nil ?_
                refine E.then_nf ?_
                refine ⟨_, [(20, _)], [0, 0], _, ?_, by repeat (first | exact E.cov_nil | refine ⟨rfl, ?_⟩), rfl, i + 1, rfl, rfl, rfl, by omega, Cf.next_all hI (by omega)⟩
                omega))
        · simp only [E.b0, E.b1, E.b2, E.b3, E.b4, E.b5, E.b6, E.b7, E.b8, E.b9, E.b10, E.b11, E.b12, E.b13, E.b14, E.b15, E.b16, E.b17, E.b18, E.b19, E.b20, reduceCtorEq] at hc
          all_goals (
            refine E.CW.exit ?_
            refine E.then_x ?_
            refine E.then_x ?_
            refine E.blk_eq ?_
            refine E.then_n ?_
            refine E.CW.seq ?_
            refine E.CW.region ?_
            refine E.OW.pure rfl rfl rfl (E.PV.assign rfl rfl) ?_
            refine E.OW.nil ?_
            refine E.then_n ?_
            refine E.CW.ret ?_
            refine E.KR.one [] Try.results42 rfl rfl ?_
            exact ⟨by rw [Rt.sound_yes hcz fun j hj => hI j (by omega)], rfl⟩))

set_option maxRecDepth 100000 in
theorem Lo_ok (g : E.Cfg) (t : Int) (w0 : World) (hg : g.rd w0 (E.Old w0)) (hgf : g.q.fit) :
    Calls Try.prog 43 #[g.v, .int .i64 t] w0 (E.Post w0 (E.Old w0) fun v Hn => v = .tuple #[.int .i64 (Rt.longestR g.q t).1, .int .i64 (Rt.longestR g.q t).2] ∧ Hn = []) := by
  obtain ⟨hX1, hX2, hX3, hX4⟩ := id hg
  have hgl := E.Cfg.fit_len hgf
  refine E.calls_of (vs := [g.v, .int .i64 t]) (H := []) Try.func43 Try.ntmps43 rfl rfl (E.HA.start w0) ?_
  refine E.CW.seq ?_
  refine E.CW.region ?_
  refine E.OW.box rfl rfl rfl rfl rfl rfl (fun B1 => ?_)
  refine E.OW.pure rfl rfl rfl (E.PV.assign rfl rfl) ?_
  refine E.OW.pure rfl rfl rfl (E.PV.assign rfl rfl) ?_
  refine E.OW.nil ?_
  refine E.then_n ?_
  refine E.CW.seq ?_
  refine E.CW.seq ?_
  refine E.CW.region ?_
  refine E.OW.pure rfl rfl rfl (E.PV.loads (i := 0) is28 rfl rfl rfl rfl) ?_
  refine E.OW.pure rfl rfl rfl (E.PV.move rfl rfl) ?_
  (refine E.OW.call nm66 rfl rfl rfl rfl rfl rfl _ (fun w hw => Ask_ok g t 0 w ?_ ?_ ?_) ?_; (focus (refine hw.rdC ?_; assumption)); (focus (assumption)); (focus (omega)); rintro _ _ ⟨rfl, rfl⟩)
  refine E.OW.pure rfl rfl rfl (E.PV.assign rfl rfl) ?_
  refine E.OW.nil ?_
  refine E.then_n ?_
  refine E.CW.seq ?_
  refine E.CW.region ?_
  refine E.OW.pure rfl rfl rfl (E.PV.move rfl rfl) ?_
  refine E.OW.pure rfl rfl rfl (E.PV.neq rfl rfl rfl) ?_
  refine E.OW.nil ?_
  refine E.then_n ?_
  refine E.CW.cond rfl (fun hc => ?_) (fun hc => ?_)
  · simp only [E.b0, E.b1, E.b2, E.b3, E.b4, E.b5, E.b6, E.b7, E.b8, E.b9, E.b10, E.b11, E.b12, E.b13, E.b14, E.b15, E.b16, E.b17, E.b18, E.b19, E.b20, reduceCtorEq] at hc
    all_goals (
      refine E.CW.seq ?_
      refine E.CW.region ?_
      refine E.OW.pure rfl rfl rfl (E.PV.move rfl rfl) ?_
      refine E.OW.pure rfl rfl rfl (E.PV.assign rfl rfl) ?_
      refine E.OW.pure rfl rfl rfl (E.PV.assign rfl rfl) ?_
      refine E.OW.nil ?_
      refine E.then_n ?_
      refine E.CW.ret ?_
      refine E.then_ret ?_
      refine E.KR.two [] Try.results43 rfl rfl rfl ?_
      exact ⟨by rw [show Rt.longestR g.q t = (0, Rt.asked g.q t 0) from if_neg (by assumption)], rfl⟩)
  · simp only [E.b0, E.b1, E.b2, E.b3, E.b4, E.b5, E.b6, E.b7, E.b8, E.b9, E.b10, E.b11, E.b12, E.b13, E.b14, E.b15, E.b16, E.b17, E.b18, E.b19, E.b20, reduceCtorEq] at hc
    all_goals (
      refine E.CW.skip ?_
      refine E.then_n ?_
      refine E.CW.seq ?_
      refine E.CW.seq ?_
      have hTn := Rt.asked_ten (show Rt.asked g.q t 0 = 0 by assumption)
      refine E.CW.region ?_
      refine E.OW.pure rfl rfl rfl (E.PV.loads (i := 0) is28 rfl rfl rfl rfl) ?_
      (refine E.OW.call nm42 rfl rfl rfl rfl rfl rfl _ (fun w hw => So_ok _ w ?_ ?_) ?_; (focus (refine hw.rdC ?_; assumption)); (focus (assumption)); rintro _ _ ⟨rfl, rfl⟩)
      refine E.OW.pure rfl rfl rfl (E.PV.assign rfl rfl) ?_
      refine E.OW.nil ?_
      refine E.then_n ?_
      refine E.CW.seq ?_
      refine E.CW.region ?_
      refine E.OW.pure rfl rfl rfl (E.PV.move rfl rfl) ?_
      refine E.OW.pure rfl rfl rfl (E.PV.neq rfl rfl rfl) ?_
      refine E.OW.nil ?_
      refine E.then_n ?_
      refine E.CW.cond rfl (fun hc => ?_) (fun hc => ?_)
      · simp only [E.b0, E.b1, E.b2, E.b3, E.b4, E.b5, E.b6, E.b7, E.b8, E.b9, E.b10, E.b11, E.b12, E.b13, E.b14, E.b15, E.b16, E.b17, E.b18, E.b19, E.b20, reduceCtorEq] at hc
        all_goals (
          refine E.CW.seq ?_
          refine E.CW.region ?_
          refine E.OW.pure rfl rfl rfl (E.PV.move rfl rfl) ?_
          refine E.OW.pure rfl rfl rfl (E.PV.assign rfl rfl) ?_
          refine E.OW.pure rfl rfl rfl (E.PV.assign rfl rfl) ?_
          refine E.OW.nil ?_
          refine E.then_n ?_
          refine E.CW.ret ?_
          refine E.then_ret ?_
          refine E.KR.two [] Try.results43 rfl rfl rfl ?_
          exact ⟨by rw [show Rt.longestR g.q t = (0, Rt.soundR g.q) from (if_pos (by assumption)).trans (if_neg (by assumption))], rfl⟩)
      · simp only [E.b0, E.b1, E.b2, E.b3, E.b4, E.b5, E.b6, E.b7, E.b8, E.b9, E.b10, E.b11, E.b12, E.b13, E.b14, E.b15, E.b16, E.b17, E.b18, E.b19, E.b20, reduceCtorEq] at hc
        all_goals (
          refine E.CW.skip ?_
          refine E.then_n ?_
          refine E.CW.seq ?_
          refine E.CW.region ?_
          refine E.OW.pure rfl rfl rfl (E.PV.loads (i := 0) is28 rfl rfl rfl rfl) ?_
          refine E.OW.pure rfl rfl rfl (E.PV.move rfl rfl) ?_
          (refine E.OW.call nm88 rfl rfl rfl rfl rfl rfl _ (fun w hw => lo_ok g t w ?_ ?_ hTn) ?_; (focus (refine hw.rdC ?_; assumption)); (focus (assumption)); rintro _ _ ⟨rfl, rfl⟩)
          refine E.OW.pure rfl rfl rfl (E.PV.assign rfl rfl) ?_
          refine E.OW.pure rfl rfl rfl (E.PV.assign rfl rfl) ?_
          refine E.OW.nil ?_
          refine E.then_n ?_
          refine E.CW.ret ?_
          refine E.KR.two [] Try.results43 rfl rfl rfl ?_
          exact ⟨by rw [show Rt.longestR g.q t = (Rt.most g.q t, 0) from (if_pos (by assumption)).trans (if_pos (by assumption))], rfl⟩))

set_option maxRecDepth 100000 in
theorem Bo_ok (g : E.Cfg) (t : Int) (w0 : World) (hg : g.rd w0 (E.Old w0)) (hgf : g.q.fit) :
    Calls Try.prog 45 #[g.v, .int .i64 t] w0 (E.Post w0 (E.Old w0) fun v Hn => v = .tuple #[.int .i64 (Rt.boundR g.q t).1, .int .i64 (Rt.boundR g.q t).2] ∧ Hn = []) := by
  obtain ⟨hX1, hX2, hX3, hX4⟩ := id hg
  have hgl := E.Cfg.fit_len hgf
  refine E.calls_of (vs := [g.v, .int .i64 t]) (H := []) Try.func45 Try.ntmps45 rfl rfl (E.HA.start w0) ?_
  refine E.CW.seq ?_
  refine E.CW.region ?_
  refine E.OW.box rfl rfl rfl rfl rfl rfl (fun B1 => ?_)
  refine E.OW.pure rfl rfl rfl (E.PV.assign rfl rfl) ?_
  refine E.OW.pure rfl rfl rfl (E.PV.assign rfl rfl) ?_
  refine E.OW.nil ?_
  refine E.then_n ?_
  refine E.CW.seq ?_
  refine E.CW.region ?_
  refine E.OW.pure rfl rfl rfl (E.PV.loads (i := 0) is28 rfl rfl rfl rfl) ?_
  refine E.OW.pure rfl rfl rfl (E.PV.move rfl rfl) ?_
  (refine E.OW.call nm43 rfl rfl rfl rfl rfl rfl _ (fun w hw => Lo_ok _ _ w ?_ ?_) ?_; (focus (refine hw.rdC ?_; assumption)); (focus (assumption)); rintro _ _ ⟨rfl, rfl⟩)
  refine E.OW.pure rfl rfl rfl (E.PV.move rfl rfl) ?_
  refine E.OW.pure rfl rfl rfl (E.PV.extract rfl rfl rfl) ?_
  refine E.OW.pure rfl rfl rfl (E.PV.extract rfl rfl rfl) ?_
  refine E.OW.pure rfl rfl rfl (E.PV.assign rfl rfl) ?_
  refine E.OW.pure rfl rfl rfl (E.PV.assign rfl rfl) ?_
  refine E.OW.nil ?_
  refine E.then_n ?_
  refine E.CW.seq ?_
  refine E.CW.seq ?_
  refine E.CW.region ?_
  refine E.OW.pure rfl rfl rfl (E.PV.move rfl rfl) ?_
  refine E.OW.pure rfl rfl rfl (E.PV.neq rfl rfl rfl) ?_
  refine E.OW.nil ?_
  refine E.then_n ?_
  refine E.CW.cond rfl (fun hc => ?_) (fun hc => ?_)
  · simp only [E.b0, E.b1, E.b2, E.b3, E.b4, E.b5, E.b6, E.b7, E.b8, E.b9, E.b10, E.b11, E.b12, E.b13, E.b14, E.b15, E.b16, E.b17, E.b18, E.b19, E.b20, reduceCtorEq] at hc
    all_goals (
      refine E.CW.seq ?_
      refine E.CW.region ?_
      refine E.OW.pure rfl rfl rfl (E.PV.move rfl rfl) ?_
      refine E.OW.pure rfl rfl rfl (E.PV.assign rfl rfl) ?_
      refine E.OW.pure rfl rfl rfl (E.PV.assign rfl rfl) ?_
      refine E.OW.nil ?_
      refine E.then_n ?_
      refine E.CW.ret ?_
      refine E.then_ret ?_
      refine E.KR.two [] Try.results45 rfl rfl rfl ?_
      exact ⟨by rw [show Rt.boundR g.q t = (0, (Rt.longestR g.q t).2) from if_neg (by assumption)]; rfl, rfl⟩)
  · simp only [E.b0, E.b1, E.b2, E.b3, E.b4, E.b5, E.b6, E.b7, E.b8, E.b9, E.b10, E.b11, E.b12, E.b13, E.b14, E.b15, E.b16, E.b17, E.b18, E.b19, E.b20, reduceCtorEq] at hc
    all_goals (
      refine E.CW.skip ?_
      refine E.then_n ?_
      refine E.CW.seq ?_
      obtain ⟨hTn, hlm⟩ := Rt.long_ten (show (Rt.longestR g.q t).2 = 0 by assumption)
      obtain ⟨ht0, ht3, htn⟩ := hTn.ten
      have htl : t.toNat < g.ts.length := by rw [← E.Cfg.ts_len g]; exact htn
      have hmt := hg.m _ (E.Tm.mem htl)
      have hsp : Rt.team g.q t = (g.ts.getD t.toNat E.Tm.z).q := E.Cfg.ts_getD g _
      obtain ⟨⟨_, h3h⟩, ⟨_, h3p⟩, ⟨_, h3d⟩⟩ := hTn.small
      rw [hsp] at h3h h3p h3d
      have hm1 := Nat.mul_le_mul h3h h3p
      have hm2 := Nat.mul_le_mul h3p h3d
      have hnu := hTn.nums
      rw [hsp] at hnu
      obtain ⟨hn1, hn2, hn3⟩ := hnu
      have hbd := Rt.bd_parts (n := 0) h3h hn3
      have hmb := Rt.most_b hTn
      refine E.CW.region ?_
      refine E.OW.pure rfl rfl rfl (E.PV.fieldAddr fa28_2 rfl rfl) ?_
      refine E.OW.pure rfl rfl rfl (E.PV.load (i := 0) na25 rfl rfl rfl rfl) ?_
      refine E.OW.pure rfl rfl rfl (E.PV.move rfl rfl) ?_
      refine E.OW.pure rfl rfl rfl (E.PV.indexAddr (E.rdc hX3) Try.underlying25 in79 rfl rfl rfl (E.tn ?_) ?_ ?_ (by decide)) ?_; (focus (omega)); (focus (first | (simp; done) | (simp; omega))); (focus (omega))
      refine E.OW.pure rfl rfl rfl (E.PV.load_tm (E.rdc hX3) is79 rfl rfl ?_) ?_; (focus (omega))
      refine E.OW.alloc (in79.zr) rfl rfl rfl rfl rfl (fun B2 => ?_)
      refine E.OW.store (i := 0) in79.size rfl rfl rfl rfl rfl rfl rfl rfl rfl ?_
      refine E.OW.nil ?_
      refine E.then_n ?_
      refine E.CW.seq ?_
      refine E.CW.region ?_
      refine E.OW.pure rfl rfl rfl (E.PV.fieldAddr fa79_0 rfl rfl) ?_
      refine E.OW.pure rfl rfl rfl (E.PV.load (i := 0) na31 rfl rfl rfl rfl) ?_
      refine E.OW.pure rfl rfl rfl (E.PV.len Try.underlying31 rfl rfl) ?_
      refine E.OW.pure rfl rfl rfl (E.PV.assign rfl rfl) ?_
      refine E.OW.nil ?_
      refine E.then_n ?_
      refine E.CW.seq ?_
      refine E.CW.region ?_
      refine E.OW.pure rfl rfl rfl (E.PV.fieldAddr fa79_5 rfl rfl) ?_
      refine E.OW.pure rfl rfl rfl (E.PV.load (i := 0) na3 rfl rfl rfl rfl) ?_
      refine E.OW.pure rfl rfl rfl (E.PV.move rfl rfl) ?_
      refine E.OW.pure rfl rfl rfl (E.PV.add_i64 rfl rfl rfl ?_) ?_; (focus (omega))
      refine E.OW.pure rfl rfl rfl (E.PV.add_i64 rfl rfl rfl ?_) ?_; (focus (omega))
      refine E.OW.pure rfl rfl rfl (E.PV.move rfl rfl) ?_
      refine E.OW.pure rfl rfl rfl (E.PV.mul_i64 rfl rfl rfl ?_) ?_; (focus (omega))
      refine E.OW.pure rfl rfl rfl (E.PV.add_i64 rfl rfl rfl ?_) ?_; (focus (omega))
      refine E.OW.pure rfl rfl rfl (E.PV.mul_i64 rfl rfl rfl ?_) ?_; (focus (exact Rt.mulb (by omega) (by omega)))
      refine E.OW.pure rfl rfl rfl (E.PV.move rfl rfl) ?_
      refine E.OW.pure rfl rfl rfl (E.PV.fieldAddr fa79_3 rfl rfl) ?_
      refine E.OW.pure rfl rfl rfl (E.PV.load (i := 0) na3 rfl rfl rfl rfl) ?_
      refine E.OW.pure rfl rfl rfl (E.PV.add_i64 rfl rfl rfl ?_) ?_; (focus (omega))
      refine E.OW.pure rfl rfl rfl (E.PV.fieldAddr fa79_4 rfl rfl) ?_
      refine E.OW.pure rfl rfl rfl (E.PV.load (i := 0) na3 rfl rfl rfl rfl) ?_
      refine E.OW.pure rfl rfl rfl (E.PV.add_i64 rfl rfl rfl ?_) ?_; (focus (omega))
      refine E.OW.pure rfl rfl rfl (E.PV.add_i64 rfl rfl rfl ?_) ?_; (focus (omega))
      refine E.OW.pure rfl rfl rfl (E.PV.mul_i64 rfl rfl rfl ?_) ?_; (focus (exact Rt.mulb (by omega) (by omega)))
      refine E.OW.pure rfl rfl rfl (E.PV.assign rfl rfl) ?_
      refine E.OW.pure rfl rfl rfl (E.PV.assign rfl rfl) ?_
      refine E.OW.nil ?_
      refine E.then_n ?_
      refine E.CW.ret ?_
      refine E.KR.two [] Try.results45 rfl rfl rfl ?_
      exact ⟨by rw [show Rt.boundR g.q t = (Rt.bd (Rt.team g.q t) (Rt.longestR g.q t).1, 0) from if_pos (by assumption), hsp]; rfl, rfl⟩)
end Go.Proofs.Ytflkbabhbnmajaa

/- The reference of routes, plainly. -/
set_option linter.unusedSimpArgs false
set_option linter.unusedVariables false
namespace Go.Proofs.Ytflkbabhbnmajaa
namespace Rt
open Cf
theorem mine_ref {g : C} {t p : Int} (h : check g = 0) (hp : 0 ≤ p ∧ p < g.l.length) (ht : 0 ≤ t ∧ t < 3) : mine g t p = Fl.own t (g.l.getD p.toNat 0) := by
  unfold mine
  rw [owner_on h hp, Fl.own_iff ht (Fl.okc_at (check_zero h).1 (by omega))]
theorem aisle_ref {g : C} {p : Int} (h : check g = 0) (hp : 0 ≤ p ∧ p < g.l.length) : aisle g p = decide (Fl.ownerC (g.l.getD p.toNat 0) = -2) := by
  unfold aisle
  rw [owner_on h hp]
theorem slo {g : C} (h : check g = 0) (tick : Int) : Fl.sliceOwner g.s tick = (Fl.sown g.s tick 0, 0) := Fl.owner_ok (check_zero h).2.1
theorem allows_mine {g : C} {t p tick : Int} (h : check g = 0) : allows g t p tick = (mine g t p || (aisle g p && decide (Fl.sown g.s tick 0 = t))) := by
  unfold allows mine aisle
  rw [slo h]
  by_cases h1 : owner g p = t
  · simp [h1]
  · by_cases h2 : owner g p = -2
    · rw [if_neg h1, if_pos h2, decide_eq_false h1, decide_eq_true h2]; simp
    · rw [if_neg h1, if_neg h2, decide_eq_false h1, decide_eq_false h2]; rfl
theorem on_iff {g : C} {p : Int} : on g p = true ↔ 0 ≤ p ∧ p < (g.l.length : Int) := by simp [on]
theorem onLeg_off {g : C} {t a b : Int} (hT : Ten g t) (h : on g a = false ∨ on g b = false) : onLeg g t a b = false := by
  have ht := hT.ten
  unfold onLeg
  rcases h with h | h
  · rw [owner_off hT.c (p := a) fun hh => by rw [on_iff.2 hh] at h; cases h]
    rw [decide_eq_false (show ¬ (-1 : Int) = t by omega)]; simp
  · rw [owner_off hT.c (p := b) fun hh => by rw [on_iff.2 hh] at h; cases h]
    rw [decide_eq_false (show ¬ (-1 : Int) = t by omega)]; rfl
theorem onLeg_ref {g : C} {t a b : Int} (hT : Ten g t) (ha : on g a = true) (hb : on g b = true) : onLeg g t a b = (Fl.own t (g.l.getD b.toNat 0) && (Fl.own t (g.l.getD a.toNat 0) || decide (Fl.ownerC (g.l.getD a.toNat 0) = -2))) := by
  have ht := hT.ten
  rw [← mine_ref hT.c (on_iff.1 hb) ⟨ht.1, ht.2.1⟩, ← mine_ref hT.c (on_iff.1 ha) ⟨ht.1, ht.2.1⟩, ← aisle_ref hT.c (on_iff.1 ha)]
  rfl
theorem not_spot {l : List Int} {p : Int} (h : ∀ j, j < l.length → ¬ l.getD j 0 = p) : decide (p ∈ l) = false := decide_eq_false fun hm => by
  obtain ⟨i, hi, he⟩ := List.getElem_of_mem hm
  exact h i hi (by rw [List.getD_eq_getElem?_getD, List.getElem?_eq_getElem hi, Option.getD_some]; exact he)
theorem is_spot {l : List Int} {p : Int} {i : Nat} (hi : i < l.length) (h : l.getD i 0 = p) : decide (p ∈ l) = true := decide_eq_true (by rw [← h]; exact getD_mem hi)
/-- the places one tick later, as the reference finds them. -/
def ltf (g : C) (r : Nat → Bool) (p q : Nat) : Bool := (List.range p).any fun p' => r p' && decide (q ∈ near g p')
def ltd (g : C) (r : Nat → Bool) (p d q : Nat) : Bool := ltf g r p q || decide ((q : Int) ∈ nearTo g.a g.b (p : Int) d)
/-- .. then those that are not free are left out. -/
def lef (g : C) (r f : Nat → Bool) (i q : Nat) : Bool := ltf g r g.l.length q && (!decide (q < i) || f q)
theorem sound_all {g : C} (h : check g = 0) : soundR g = 0 ↔ ∀ k : Nat, k < g.ts.length → present g.ts (k : Int) = true → 0 ≤ most g (k : Int) := by
  unfold soundR
  rw [if_pos h]
  constructor
  · intro hs k hk hp
    split at hs
    · rename_i ha
      have hm : (k : Int) ∈ tenants g.ts g.ts.length := List.mem_map.2 ⟨k, List.mem_filter.2 ⟨List.mem_range.2 hk, hp⟩, rfl⟩
      exact of_decide_eq_true (List.all_eq_true.1 ha _ hm)
    · exact absurd hs (by decide)
  · intro ha
    rw [if_pos]
    refine List.all_eq_true.2 fun t ht => ?_
    unfold tenants at ht
    obtain ⟨k, h1, rfl⟩ := List.mem_map.1 ht
    have h2 := List.mem_filter.1 h1
    exact decide_eq_true (ha k (List.mem_range.1 h2.1) h2.2)
end Rt
namespace E
open Go Go.RowKit
section
variable {P : Program} {n : Fr} {w0 : World} {F : Nat → Prop} {K : Kt} {l : Env} {H : List HP} {o : Oper}
end
end E
end Go.Proofs.Ytflkbabhbnmajaa

/- Closed facts on the program (printed by gen.py). -/
namespace Go.Proofs.Ytflkbabhbnmajaa
open Go Go.RowKit
set_option linter.unusedSimpArgs false
set_option linter.unusedVariables false
theorem nm56 : E.Nm Try.prog 56 := ⟨Try.f56, Try.func56, rfl, by kernel_rfl⟩
theorem nm57 : E.Nm Try.prog 57 := ⟨Try.f57, Try.func57, rfl, by kernel_rfl⟩
theorem nm62 : E.Nm Try.prog 62 := ⟨Try.f62, Try.func62, rfl, by kernel_rfl⟩
theorem nm94 : E.Nm Try.prog 94 := ⟨Try.f94, Try.func94, rfl, by kernel_rfl⟩
end Go.Proofs.Ytflkbabhbnmajaa

/- Walks (printed by gen.py). -/
namespace Go.Proofs.Ytflkbabhbnmajaa
open Go Go.RowKit
set_option linter.unusedSimpArgs false
set_option linter.unusedVariables false

set_option maxRecDepth 100000 in
theorem GtF_ok (a b : Int) (A : Option Addr) (c : Nat) (l : List UInt8) (w0 : World) :
    Calls Try.prog 56 #[.agg #[.int .i64 a, .int .i64 b, .slice A l.length c]] w0 (E.Post w0 (E.Old w0) fun v Hn => ∃ b : Bool, v = .bool b ∧ Hn = []) := by
  refine E.calls_of (vs := [.agg #[.int .i64 a, .int .i64 b, .slice A l.length c]]) (H := []) Try.func56 Try.ntmps56 rfl rfl (E.HA.start w0) ?_
  refine E.CW.seq ?_
  refine E.CW.region ?_
  refine E.OW.box rfl rfl rfl rfl rfl rfl (fun B1 => ?_)
  refine E.OW.pure rfl rfl rfl (E.PV.assign rfl rfl) ?_
  refine E.OW.nil ?_
  refine E.then_n ?_
  refine E.CW.seq ?_
  refine E.CW.region ?_
  refine E.OW.pure rfl rfl rfl (E.PV.fieldAddr fa24_2 rfl rfl) ?_
  refine E.OW.pure rfl rfl rfl (E.PV.load (i := 0) na22 rfl rfl rfl rfl) ?_
  refine E.OW.pure rfl rfl rfl (E.PV.len Try.underlying22 rfl rfl) ?_
  refine E.OW.pure rfl rfl rfl (E.PV.gtr rfl rfl rfl) ?_
  refine E.OW.pure rfl rfl rfl (E.PV.assign rfl rfl) ?_
  refine E.OW.nil ?_
  refine E.then_n ?_
  refine E.CW.ret ?_
  refine E.KR.one [] Try.results56 rfl rfl ?_
  exact ⟨_, rfl, rfl⟩

set_option maxRecDepth 100000 in
theorem GtT_ok (m : E.Tm) (w0 : World) :
    Calls Try.prog 57 #[m.v] w0 (E.Post w0 (E.Old w0) fun v Hn => ∃ b : Bool, v = .bool b ∧ Hn = []) := by
  refine E.calls_of (vs := [m.v]) (H := []) Try.func57 Try.ntmps57 rfl rfl (E.HA.start w0) ?_
  refine E.CW.seq ?_
  refine E.CW.region ?_
  refine E.OW.box rfl rfl rfl rfl rfl rfl (fun B1 => ?_)
  refine E.OW.pure rfl rfl rfl (E.PV.assign rfl rfl) ?_
  refine E.OW.nil ?_
  refine E.then_n ?_
  refine E.CW.seq ?_
  refine E.CW.region ?_
  refine E.OW.pure rfl rfl rfl (E.PV.fieldAddr fa79_0 rfl rfl) ?_
  refine E.OW.pure rfl rfl rfl (E.PV.load (i := 0) na31 rfl rfl rfl rfl) ?_
  refine E.OW.pure rfl rfl rfl (E.PV.len Try.underlying31 rfl rfl) ?_
  refine E.OW.pure rfl rfl rfl (E.PV.gtr rfl rfl rfl) ?_
  refine E.OW.pure rfl rfl rfl (E.PV.move rfl rfl) ?_
  all_goals (refine E.OW.split 7 rfl (fun hc => ?_) (fun hc => ?_) <;> (try simp only [E.b0, E.b1, E.b2, E.b3, E.b4, E.b5, E.b6, E.b7, E.b8, E.b9, E.b10, E.b11, E.b12, E.b13, E.b14, E.b15, E.b16, E.b17, E.b18, E.b19, E.b20, reduceCtorEq] at hc) <;> (try (exfalso; first | assumption | contradiction | omega)))
  all_goals (first | (refine E.OW.off rfl rfl rfl ?_) | (refine E.OW.pure rfl rfl rfl (E.PV.fieldAddr fa79_1 rfl rfl) ?_))
  all_goals (first | (refine E.OW.off rfl rfl rfl ?_) | (refine E.OW.pure rfl rfl rfl (E.PV.load (i := 0) na31 rfl rfl rfl rfl) ?_))
  all_goals (first | (refine E.OW.off rfl rfl rfl ?_) | (refine E.OW.pure rfl rfl rfl (E.PV.len Try.underlying31 rfl rfl) ?_))
  all_goals (first | (refine E.OW.off rfl rfl rfl ?_) | (refine E.OW.pure rfl rfl rfl (E.PV.gtr rfl rfl rfl) ?_))
  all_goals (first | (refine E.OW.pure rfl rfl rfl (E.PV.pick_t rfl rfl rfl) ?_) | (refine E.OW.pure rfl rfl rfl (E.PV.pick_f rfl rfl rfl) ?_))
  all_goals (refine E.OW.pure rfl rfl rfl (E.PV.move rfl rfl) ?_)
  all_goals (first | (refine E.OW.put 13 (.bool true) (v := .bool true) rfl rfl ?_) | (refine E.OW.split 13 rfl (fun hc => ?_) (fun hc => ?_) <;> (try simp only [E.b0, E.b1, E.b2, E.b3, E.b4, E.b5, E.b6, E.b7, E.b8, E.b9, E.b10, E.b11, E.b12, E.b13, E.b14, E.b15, E.b16, E.b17, E.b18, E.b19, E.b20, reduceCtorEq] at hc) <;> (try (exfalso; first | assumption | contradiction | omega))))
  all_goals (first | (refine E.OW.off rfl rfl rfl ?_) | (refine E.OW.pure rfl rfl rfl (E.PV.fieldAddr fa79_2 rfl rfl) ?_))
  all_goals (first | (refine E.OW.off rfl rfl rfl ?_) | (refine E.OW.pure rfl rfl rfl (E.PV.load (i := 0) na31 rfl rfl rfl rfl) ?_))
  all_goals (first | (refine E.OW.off rfl rfl rfl ?_) | (refine E.OW.pure rfl rfl rfl (E.PV.len Try.underlying31 rfl rfl) ?_))
  all_goals (first | (refine E.OW.off rfl rfl rfl ?_) | (refine E.OW.pure rfl rfl rfl (E.PV.gtr rfl rfl rfl) ?_))
  all_goals (first | (refine E.OW.pure rfl rfl rfl (E.PV.pick_t rfl rfl rfl) ?_) | (refine E.OW.pure rfl rfl rfl (E.PV.pick_f rfl rfl rfl) ?_))
  all_goals (refine E.OW.pure rfl rfl rfl (E.PV.assign rfl rfl) ?_)
  all_goals (
    refine E.OW.nil ?_
    refine E.then_n ?_
    refine E.CW.ret ?_
    refine E.KR.one [] Try.results57 rfl rfl ?_
    exact ⟨_, rfl, rfl⟩)

set_option maxRecDepth 100000 in
theorem Gt_ok (g : E.Cfg) (w0 : World) (hg : g.rd w0 (E.Old w0)) (hgf : g.q.fit) :
    Calls Try.prog 19 #[g.v] w0 (E.Post w0 (E.Old w0) fun v Hn => ∃ b : Bool, v = .bool b ∧ Hn = []) := by
  obtain ⟨hX1, hX2, hX3, hX4⟩ := id hg
  have hgl := E.Cfg.fit_len hgf
  refine E.calls_of (vs := [g.v]) (H := []) Try.func19 Try.ntmps19 rfl rfl (E.HA.start w0) ?_
  refine E.CW.seq ?_
  refine E.CW.region ?_
  refine E.OW.box rfl rfl rfl rfl rfl rfl (fun B1 => ?_)
  refine E.OW.pure rfl rfl rfl (E.PV.assign rfl rfl) ?_
  refine E.OW.nil ?_
  refine E.then_n ?_
  refine E.CW.seq ?_
  refine E.CW.seq ?_
  refine E.CW.region ?_
  refine E.OW.pure rfl rfl rfl (E.PV.fieldAddr fa28_0 rfl rfl) ?_
  refine E.OW.pure rfl rfl rfl (E.PV.loads (i := 0) is24 rfl rfl rfl rfl) ?_
  (refine E.OW.call nm56 rfl rfl rfl rfl rfl rfl _ (fun w hw => GtF_ok _ _ _ _ _ w) ?_; rintro _ _ ⟨bF, rfl, rfl⟩)
  refine E.OW.pure rfl rfl rfl (E.PV.move rfl rfl) ?_
  all_goals (refine E.OW.split 7 rfl (fun hc => ?_) (fun hc => ?_) <;> (try simp only [E.b0, E.b1, E.b2, E.b3, E.b4, E.b5, E.b6, E.b7, E.b8, E.b9, E.b10, E.b11, E.b12, E.b13, E.b14, E.b15, E.b16, E.b17, E.b18, E.b19, E.b20, reduceCtorEq] at hc) <;> (try (exfalso; first | assumption | contradiction | omega)))
  all_goals (first | (refine E.OW.off rfl rfl rfl ?_) | (refine E.OW.pure rfl rfl rfl (E.PV.fieldAddr fa28_1 rfl rfl) ?_))
  all_goals (first | (refine E.OW.off rfl rfl rfl ?_) | (refine E.OW.pure rfl rfl rfl (E.PV.load (i := 0) na22 rfl rfl rfl rfl) ?_))
  all_goals (first | (refine E.OW.off rfl rfl rfl ?_) | (refine E.OW.pure rfl rfl rfl (E.PV.len Try.underlying22 rfl rfl) ?_))
  all_goals (first | (refine E.OW.off rfl rfl rfl ?_) | (refine E.OW.pure rfl rfl rfl (E.PV.gtr rfl rfl rfl) ?_))
  all_goals (first | (refine E.OW.pure rfl rfl rfl (E.PV.pick_t rfl rfl rfl) ?_) | (refine E.OW.pure rfl rfl rfl (E.PV.pick_f rfl rfl rfl) ?_))
  all_goals (refine E.OW.pure rfl rfl rfl (E.PV.move rfl rfl) ?_)
  all_goals (first | (refine E.OW.put 13 (.bool true) (v := .bool true) rfl rfl ?_) | (refine E.OW.split 13 rfl (fun hc => ?_) (fun hc => ?_) <;> (try simp only [E.b0, E.b1, E.b2, E.b3, E.b4, E.b5, E.b6, E.b7, E.b8, E.b9, E.b10, E.b11, E.b12, E.b13, E.b14, E.b15, E.b16, E.b17, E.b18, E.b19, E.b20, reduceCtorEq] at hc) <;> (try (exfalso; first | assumption | contradiction | omega))))
  all_goals (first | (refine E.OW.off rfl rfl rfl ?_) | (refine E.OW.pure rfl rfl rfl (E.PV.fieldAddr fa28_2 rfl rfl) ?_))
  all_goals (first | (refine E.OW.off rfl rfl rfl ?_) | (refine E.OW.pure rfl rfl rfl (E.PV.load (i := 0) na25 rfl rfl rfl rfl) ?_))
  all_goals (first | (refine E.OW.off rfl rfl rfl ?_) | (refine E.OW.pure rfl rfl rfl (E.PV.len Try.underlying25 rfl rfl) ?_))
  all_goals (first | (refine E.OW.off rfl rfl rfl ?_) | (refine E.OW.pure rfl rfl rfl (E.PV.gtr rfl rfl rfl) ?_))
  all_goals (first | (refine E.OW.pure rfl rfl rfl (E.PV.pick_t rfl rfl rfl) ?_) | (refine E.OW.pure rfl rfl rfl (E.PV.pick_f rfl rfl rfl) ?_))
  all_goals (
    refine E.OW.nil ?_
    refine E.then_n ?_
    refine E.CW.cond rfl (fun hc => ?_) (fun hc => ?_)
    · simp only [E.b0, E.b1, E.b2, E.b3, E.b4, E.b5, E.b6, E.b7, E.b8, E.b9, E.b10, E.b11, E.b12, E.b13, E.b14, E.b15, E.b16, E.b17, E.b18, E.b19, E.b20, reduceCtorEq] at hc
      all_goals (
        refine E.CW.seq ?_
        refine E.CW.region ?_
        refine E.OW.pure rfl rfl rfl (E.PV.assign rfl rfl) ?_
        refine E.OW.nil ?_
        refine E.then_n ?_
        refine E.CW.ret ?_
        refine E.then_ret ?_
        refine E.KR.one [] Try.results19 rfl rfl ?_
        exact ⟨_, rfl, rfl⟩)
    · first | ((cases hc; done)) | (simp only [E.b0, E.b1, E.b2, E.b3, E.b4, E.b5, E.b6, E.b7, E.b8, E.b9, E.b10, E.b11, E.b12, E.b13, E.b14, E.b15, E.b16, E.b17, E.b18, E.b19, E.b20, reduceCtorEq] at hc)
      all_goals (
        refine E.CW.skip ?_
        refine E.then_n ?_
        refine E.CW.seq ?_
        refine E.CW.seq ?_
        refine E.CW.region ?_
        refine E.OW.pure rfl rfl rfl (E.PV.assign rfl rfl) ?_
        refine E.OW.nil ?_
        refine E.then_n ?_
        refine E.CW.block ?_
        refine E.CW.loopk [1] 0 rfl rfl (fun mm mods Hm => ∃ k : Nat, mm = g.ts.length - k ∧ mods = [(3, .int .i64 k)] ∧ Hm = [] ∧ k ≤ g.ts.length) (g.ts.length) ?_ ?_
        · exact ⟨[(3, _)], (by repeat (first | exact E.cov_nil | refine ⟨rfl, ?_⟩)), 0, rfl, rfl, rfl, by omega⟩
        · rintro _ _ _ ⟨k, rfl, rfl, rfl, hk⟩
          refine E.CW.seq ?_
          refine E.CW.seq ?_
          refine E.CW.region ?_
          refine E.OW.pure rfl rfl rfl (E.PV.move rfl rfl) ?_
          refine E.OW.pure rfl rfl rfl (E.PV.fieldAddr fa28_2 rfl rfl) ?_
          refine E.OW.pure rfl rfl rfl (E.PV.load (i := 0) na25 rfl rfl rfl rfl) ?_
          refine E.OW.pure rfl rfl rfl (E.PV.len Try.underlying25 rfl rfl) ?_
          refine E.OW.pure rfl rfl rfl (E.PV.lss rfl rfl rfl) ?_
          refine E.OW.nil ?_
          refine E.then_n ?_
          refine E.CW.cond rfl (fun hc => ?_) (fun hc => ?_)
          · simp only [E.b0, E.b1, E.b2, E.b3, E.b4, E.b5, E.b6, E.b7, E.b8, E.b9, E.b10, E.b11, E.b12, E.b13, E.b14, E.b15, E.b16, E.b17, E.b18, E.b19, E.b20, reduceCtorEq] at hc
            all_goals (
              refine E.CW.skip ?_
              refine E.then_n ?_
              refine E.CW.seq ?_
              refine E.CW.block ?_
              refine E.CW.seq ?_
              refine E.CW.region ?_
              refine E.OW.pure rfl rfl rfl (E.PV.fieldAddr fa28_2 rfl rfl) ?_
              refine E.OW.pure rfl rfl rfl (E.PV.load (i := 0) na25 rfl rfl rfl rfl) ?_
              refine E.OW.pure rfl rfl rfl (E.PV.move rfl rfl) ?_
              refine E.OW.pure rfl rfl rfl (E.PV.indexAddr (E.rdc hX3) Try.underlying25 in79 rfl rfl rfl rfl ?_ ?_ (by decide)) ?_; (focus (first | (simp; done) | (simp; omega))); (focus (omega))
              refine E.OW.pure rfl rfl rfl (E.PV.load_tm (E.rdc hX3) is79 rfl rfl ?_) ?_; (focus (omega))
              (refine E.OW.call nm57 rfl rfl rfl rfl rfl rfl _ (fun w hw => GtT_ok _ w) ?_; rintro _ _ ⟨bT, rfl, rfl⟩)
              refine E.OW.nil ?_
              refine E.then_n ?_
              refine E.CW.cond rfl (fun hc => ?_) (fun hc => ?_)
              · skip
                all_goals (
                  refine E.CW.seq ?_
                  refine E.CW.region ?_
                  refine E.OW.pure rfl rfl rfl (E.PV.assign rfl rfl) ?_
                  refine E.OW.nil ?_
                  refine E.then_n ?_
                  refine E.CW.ret ?_
                  refine E.blk_ret ?_
                  refine E.then_ret ?_
                  refine E.then_ret ?_
                  refine E.blk_ret ?_
                  refine E.then_ret ?_
                  refine E.KR.one [] Try.results19 rfl rfl ?_
                  exact ⟨_, rfl, rfl⟩)
              · skip
                all_goals (
                  refine E.CW.skip ?_
                  refine E.blk_n ?_
                  refine E.then_n ?_
                  refine E.CW.region ?_
                  refine E.OW.pure rfl rfl rfl (E.PV.move rfl rfl) ?_
                  refine E.OW.pure rfl rfl rfl (E.PV.add_i64 rfl rfl rfl ?_) ?_; (focus (omega))
                  refine E.OW.pure rfl rfl rfl (E.PV.assign rfl rfl) ?_
                  refine E.OW.nil ?_
                  refine E.then_nf ?_
                  refine ⟨_, [(3, _)], [0], _, ?_, by repeat (first | exact E.cov_nil | refine ⟨rfl, ?_⟩), rfl, k + 1, rfl, rfl, rfl, by omega⟩
                  omega))
          · simp only [E.b0, E.b1, E.b2, E.b3, E.b4, E.b5, E.b6, E.b7, E.b8, E.b9, E.b10, E.b11, E.b12, E.b13, E.b14, E.b15, E.b16, E.b17, E.b18, E.b19, E.b20, reduceCtorEq] at hc
            all_goals (
              refine E.CW.exit ?_
              refine E.then_x ?_
              refine E.then_x ?_
              refine E.blk_eq ?_
              refine E.then_n ?_
              refine E.CW.seq ?_
              refine E.CW.region ?_
              refine E.OW.pure rfl rfl rfl (E.PV.assign rfl rfl) ?_
              refine E.OW.nil ?_
              refine E.then_n ?_
              refine E.CW.ret ?_
              refine E.KR.one [] Try.results19 rfl rfl ?_
              exact ⟨_, rfl, rfl⟩)))

set_option maxRecDepth 100000 in
theorem rIl_ok (g : E.Cfg) (t a b : Int) (w0 : World) (hg : g.rd w0 (E.Old w0)) (hgf : g.q.fit) (hTn : Rt.Ten g.q t) :
    Calls Try.prog 50 #[g.v, .int .i64 t, .agg #[.int .i64 a, .int .i64 b]] w0 (E.Post w0 (E.Old w0) fun v Hn => v = .bool (Rt.onLeg g.q t a b) ∧ Hn = []) := by
  obtain ⟨hX1, hX2, hX3, hX4⟩ := id hg
  have hgl := E.Cfg.fit_len hgf
  obtain ⟨ht0, ht3, htn⟩ := hTn.ten
  have hs16 : 1 ≤ g.s.length ∧ g.s.length ≤ 16 := Rt.per_of hTn.c
  have hol : Rt.on g.q a = true → Rt.on g.q b = true → Rt.onLeg g.q t a b = (Fl.own t (g.l.getD b.toNat 0) && (Fl.own t (g.l.getD a.toNat 0) || decide (Fl.ownerC (g.l.getD a.toNat 0) = -2))) := fun h1 h2 => Rt.onLeg_ref hTn h1 h2
  refine E.calls_of (vs := [g.v, .int .i64 t, .agg #[.int .i64 a, .int .i64 b]]) (H := []) Try.func50 Try.ntmps50 rfl rfl (E.HA.start w0) ?_
  refine E.CW.seq ?_
  refine E.CW.region ?_
  refine E.OW.box rfl rfl rfl rfl rfl rfl (fun B1 => ?_)
  refine E.OW.box rfl rfl rfl rfl rfl rfl (fun B2 => ?_)
  refine E.OW.pure rfl rfl rfl (E.PV.assign rfl rfl) ?_
  refine E.OW.nil ?_
  refine E.then_n ?_
  refine E.CW.seq ?_
  refine E.CW.seq ?_
  rcases Bool.eq_false_or_eq_true (Rt.on g.q a) with hoa | hoa
  all_goals rcases Bool.eq_false_or_eq_true (Rt.on g.q b) with hob | hob
  · skip
    refine E.CW.region ?_
    refine E.OW.pure rfl rfl rfl (E.PV.loads (i := 1) is28 rfl rfl rfl rfl) ?_
    refine E.OW.pure rfl rfl rfl (E.PV.fieldAddr fa30_0 rfl rfl) ?_
    refine E.OW.pure rfl rfl rfl (E.PV.load (i := 0) na3 rfl rfl rfl rfl) ?_
    (refine E.OW.call nm62 rfl rfl rfl rfl rfl rfl _ (fun w hw => rOn_ok g a w ?_ ?_) ?_; (focus (refine hw.rdC ?_; assumption)); (focus (assumption)); rintro _ _ ⟨rfl, rfl⟩)
    refine E.OW.pure rfl rfl rfl (E.PV.not rfl rfl) ?_
    refine E.OW.pure rfl rfl rfl (E.PV.move rfl rfl) ?_
    all_goals (refine E.OW.put 12 (.bool false) rfl (congrArg Value.bool ?_) ?_; (focus ((simp only [E.b0, E.b1, E.b2, E.b3, E.b4, E.b5, E.b6, E.b7, E.b8, E.b9, E.b10, E.b11, E.b12, E.b13, E.b14, E.b15, E.b16, E.b17, E.b18, E.b19, E.b20]; omega))))
    all_goals (refine E.OW.pure rfl rfl rfl (E.PV.loads (i := 1) is28 rfl rfl rfl rfl) ?_)
    all_goals (refine E.OW.pure rfl rfl rfl (E.PV.fieldAddr fa30_1 rfl rfl) ?_)
    all_goals (refine E.OW.pure rfl rfl rfl (E.PV.load (i := 0) na3 rfl rfl rfl rfl) ?_)
    all_goals ((refine E.OW.call nm62 rfl rfl rfl rfl rfl rfl _ (fun w hw => rOn_ok g b w ?_ ?_) ?_; (focus (refine hw.rdC ?_; assumption)); (focus (assumption)); rintro _ _ ⟨rfl, rfl⟩))
    all_goals (refine E.OW.pure rfl rfl rfl (E.PV.not rfl rfl) ?_)
    all_goals (refine E.OW.pure rfl rfl rfl (E.PV.pick_f rfl rfl rfl) ?_)
    all_goals (refine E.OW.pure rfl rfl rfl (E.PV.move rfl rfl) ?_)
    all_goals (refine E.OW.put 19 (.bool false) rfl (congrArg Value.bool ?_) ?_; (focus ((simp only [E.b0, E.b1, E.b2, E.b3, E.b4, E.b5, E.b6, E.b7, E.b8, E.b9, E.b10, E.b11, E.b12, E.b13, E.b14, E.b15, E.b16, E.b17, E.b18, E.b19, E.b20]; omega))))
    all_goals (refine E.OW.pure rfl rfl rfl (E.PV.fieldAddr fa28_0 rfl rfl) ?_)
    all_goals (refine E.OW.pure rfl rfl rfl (E.PV.loads (i := 1) is24 rfl rfl rfl rfl) ?_)
    all_goals (refine E.OW.pure rfl rfl rfl (E.PV.move rfl rfl) ?_)
    all_goals (refine E.OW.pure rfl rfl rfl (E.PV.fieldAddr fa30_1 rfl rfl) ?_)
    all_goals (refine E.OW.pure rfl rfl rfl (E.PV.load (i := 0) na3 rfl rfl rfl rfl) ?_)
    all_goals ((refine E.OW.call nm93 rfl rfl rfl rfl rfl rfl _ (fun w hw => rOwn_ok _ _ _ _ g.l t b w (Rt.on_iff.1 hob) ?_) ?_; (focus (refine hw.rd ?_; assumption)); rintro _ _ ⟨rfl, rfl⟩))
    all_goals (refine E.OW.pure rfl rfl rfl (E.PV.not rfl rfl) ?_)
    all_goals (refine E.OW.pure rfl rfl rfl (E.PV.pick_f rfl rfl rfl) ?_)
    all_goals (
      refine E.OW.nil ?_
      refine E.then_n ?_
      refine E.CW.cond rfl (fun hc => ?_) (fun hc => ?_)
      · simp only [E.b0, E.b1, E.b2, E.b3, E.b4, E.b5, E.b6, E.b7, E.b8, E.b9, E.b10, E.b11, E.b12, E.b13, E.b14, E.b15, E.b16, E.b17, E.b18, E.b19, E.b20, reduceCtorEq] at hc
        all_goals (
          refine E.CW.seq ?_
          refine E.CW.region ?_
          refine E.OW.pure rfl rfl rfl (E.PV.assign rfl rfl) ?_
          refine E.OW.nil ?_
          refine E.then_n ?_
          refine E.CW.ret ?_
          refine E.then_ret ?_
          refine E.KR.one [] Try.results50 rfl rfl ?_
          exact ⟨congrArg Value.bool (by first | exact (Rt.onLeg_off hTn (.inl hoa)).symm | exact (Rt.onLeg_off hTn (.inr hob)).symm | (rw [hol hoa hob]; first | (simp_all; done) | (simp_all; rfl))), rfl⟩)
      · simp only [E.b0, E.b1, E.b2, E.b3, E.b4, E.b5, E.b6, E.b7, E.b8, E.b9, E.b10, E.b11, E.b12, E.b13, E.b14, E.b15, E.b16, E.b17, E.b18, E.b19, E.b20, reduceCtorEq] at hc
        all_goals (
          refine E.CW.skip ?_
          refine E.then_n ?_
          refine E.CW.seq ?_
          skip
          refine E.CW.region ?_
          refine E.OW.pure rfl rfl rfl (E.PV.fieldAddr fa28_0 rfl rfl) ?_
          refine E.OW.pure rfl rfl rfl (E.PV.loads (i := 1) is24 rfl rfl rfl rfl) ?_
          refine E.OW.pure rfl rfl rfl (E.PV.move rfl rfl) ?_
          refine E.OW.pure rfl rfl rfl (E.PV.fieldAddr fa30_0 rfl rfl) ?_
          refine E.OW.pure rfl rfl rfl (E.PV.load (i := 0) na3 rfl rfl rfl rfl) ?_
          (refine E.OW.call nm93 rfl rfl rfl rfl rfl rfl _ (fun w hw => rOwn_ok _ _ _ _ g.l t a w (Rt.on_iff.1 hoa) ?_) ?_; (focus (refine hw.rd ?_; assumption)); rintro _ _ ⟨rfl, rfl⟩)
          refine E.OW.pure rfl rfl rfl (E.PV.move rfl rfl) ?_
          all_goals (refine E.OW.split 34 rfl (fun hc => ?_) (fun hc => ?_) <;> (try simp only [E.b0, E.b1, E.b2, E.b3, E.b4, E.b5, E.b6, E.b7, E.b8, E.b9, E.b10, E.b11, E.b12, E.b13, E.b14, E.b15, E.b16, E.b17, E.b18, E.b19, E.b20, reduceCtorEq] at hc) <;> (try (exfalso; first | assumption | contradiction | omega)))
          all_goals (first | (refine E.OW.off rfl rfl rfl ?_) | (refine E.OW.pure rfl rfl rfl (E.PV.fieldAddr fa28_0 rfl rfl) ?_))
          all_goals (first | (refine E.OW.off rfl rfl rfl ?_) | (refine E.OW.pure rfl rfl rfl (E.PV.loads (i := 1) is24 rfl rfl rfl rfl) ?_))
          all_goals (first | (refine E.OW.off rfl rfl rfl ?_) | (refine E.OW.pure rfl rfl rfl (E.PV.fieldAddr fa30_0 rfl rfl) ?_))
          all_goals (first | (refine E.OW.off rfl rfl rfl ?_) | (refine E.OW.pure rfl rfl rfl (E.PV.load (i := 0) na3 rfl rfl rfl rfl) ?_))
          all_goals (first | (refine E.OW.off rfl rfl rfl ?_) | ((refine E.OW.call nm94 rfl rfl rfl rfl rfl rfl _ (fun w hw => rAisle_ok _ _ _ _ g.l a w (Rt.on_iff.1 hoa) ?_) ?_; (focus (refine hw.rd ?_; assumption)); rintro _ _ ⟨rfl, rfl⟩)))
          all_goals (first | (refine E.OW.pure rfl rfl rfl (E.PV.pick_t rfl rfl rfl) ?_) | (refine E.OW.pure rfl rfl rfl (E.PV.pick_f rfl rfl rfl) ?_))
          all_goals (refine E.OW.pure rfl rfl rfl (E.PV.assign rfl rfl) ?_)
          all_goals (
            refine E.OW.nil ?_
            refine E.then_n ?_
            refine E.CW.ret ?_
            refine E.KR.one [] Try.results50 rfl rfl ?_
            exact ⟨congrArg Value.bool (by rw [hol hoa hob]; first | (simp_all; done) | (simp_all; rfl)), rfl⟩)))
  · skip
    refine E.CW.region ?_
    refine E.OW.pure rfl rfl rfl (E.PV.loads (i := 1) is28 rfl rfl rfl rfl) ?_
    refine E.OW.pure rfl rfl rfl (E.PV.fieldAddr fa30_0 rfl rfl) ?_
    refine E.OW.pure rfl rfl rfl (E.PV.load (i := 0) na3 rfl rfl rfl rfl) ?_
    (refine E.OW.call nm62 rfl rfl rfl rfl rfl rfl _ (fun w hw => rOn_ok g a w ?_ ?_) ?_; (focus (refine hw.rdC ?_; assumption)); (focus (assumption)); rintro _ _ ⟨rfl, rfl⟩)
    refine E.OW.pure rfl rfl rfl (E.PV.not rfl rfl) ?_
    refine E.OW.pure rfl rfl rfl (E.PV.move rfl rfl) ?_
    all_goals (refine E.OW.put 12 (.bool false) rfl (congrArg Value.bool ?_) ?_; (focus ((simp only [E.b0, E.b1, E.b2, E.b3, E.b4, E.b5, E.b6, E.b7, E.b8, E.b9, E.b10, E.b11, E.b12, E.b13, E.b14, E.b15, E.b16, E.b17, E.b18, E.b19, E.b20]; omega))))
    all_goals (refine E.OW.pure rfl rfl rfl (E.PV.loads (i := 1) is28 rfl rfl rfl rfl) ?_)
    all_goals (refine E.OW.pure rfl rfl rfl (E.PV.fieldAddr fa30_1 rfl rfl) ?_)
    all_goals (refine E.OW.pure rfl rfl rfl (E.PV.load (i := 0) na3 rfl rfl rfl rfl) ?_)
    all_goals ((refine E.OW.call nm62 rfl rfl rfl rfl rfl rfl _ (fun w hw => rOn_ok g b w ?_ ?_) ?_; (focus (refine hw.rdC ?_; assumption)); (focus (assumption)); rintro _ _ ⟨rfl, rfl⟩))
    all_goals (refine E.OW.pure rfl rfl rfl (E.PV.not rfl rfl) ?_)
    all_goals (refine E.OW.pure rfl rfl rfl (E.PV.pick_f rfl rfl rfl) ?_)
    all_goals (refine E.OW.pure rfl rfl rfl (E.PV.move rfl rfl) ?_)
    all_goals (refine E.OW.put 19 (.bool true) rfl (congrArg Value.bool ?_) ?_; (focus ((simp only [E.b0, E.b1, E.b2, E.b3, E.b4, E.b5, E.b6, E.b7, E.b8, E.b9, E.b10, E.b11, E.b12, E.b13, E.b14, E.b15, E.b16, E.b17, E.b18, E.b19, E.b20]; omega))))
    all_goals (refine E.OW.off rfl rfl rfl ?_)
    all_goals (refine E.OW.off rfl rfl rfl ?_)
    all_goals (refine E.OW.off rfl rfl rfl ?_)
    all_goals (refine E.OW.off rfl rfl rfl ?_)
    all_goals (refine E.OW.off rfl rfl rfl ?_)
    all_goals (refine E.OW.off rfl rfl rfl ?_)
    all_goals (refine E.OW.off rfl rfl rfl ?_)
    all_goals (refine E.OW.pure rfl rfl rfl (E.PV.pick_t rfl rfl rfl) ?_)
    all_goals (
      refine E.OW.nil ?_
      refine E.then_n ?_
      refine E.CW.cond rfl (fun hc => ?_) (fun hc => ?_)
      · simp only [E.b0, E.b1, E.b2, E.b3, E.b4, E.b5, E.b6, E.b7, E.b8, E.b9, E.b10, E.b11, E.b12, E.b13, E.b14, E.b15, E.b16, E.b17, E.b18, E.b19, E.b20, reduceCtorEq] at hc
        all_goals (
          refine E.CW.seq ?_
          refine E.CW.region ?_
          refine E.OW.pure rfl rfl rfl (E.PV.assign rfl rfl) ?_
          refine E.OW.nil ?_
          refine E.then_n ?_
          refine E.CW.ret ?_
          refine E.then_ret ?_
          refine E.KR.one [] Try.results50 rfl rfl ?_
          exact ⟨congrArg Value.bool (by first | exact (Rt.onLeg_off hTn (.inl hoa)).symm | exact (Rt.onLeg_off hTn (.inr hob)).symm | (rw [hol hoa hob]; first | (simp_all; done) | (simp_all; rfl))), rfl⟩)
      · (cases hc; done))
  · skip
    refine E.CW.region ?_
    refine E.OW.pure rfl rfl rfl (E.PV.loads (i := 1) is28 rfl rfl rfl rfl) ?_
    refine E.OW.pure rfl rfl rfl (E.PV.fieldAddr fa30_0 rfl rfl) ?_
    refine E.OW.pure rfl rfl rfl (E.PV.load (i := 0) na3 rfl rfl rfl rfl) ?_
    (refine E.OW.call nm62 rfl rfl rfl rfl rfl rfl _ (fun w hw => rOn_ok g a w ?_ ?_) ?_; (focus (refine hw.rdC ?_; assumption)); (focus (assumption)); rintro _ _ ⟨rfl, rfl⟩)
    refine E.OW.pure rfl rfl rfl (E.PV.not rfl rfl) ?_
    refine E.OW.pure rfl rfl rfl (E.PV.move rfl rfl) ?_
    all_goals (refine E.OW.put 12 (.bool true) rfl (congrArg Value.bool ?_) ?_; (focus ((simp only [E.b0, E.b1, E.b2, E.b3, E.b4, E.b5, E.b6, E.b7, E.b8, E.b9, E.b10, E.b11, E.b12, E.b13, E.b14, E.b15, E.b16, E.b17, E.b18, E.b19, E.b20]; omega))))
    all_goals (refine E.OW.off rfl rfl rfl ?_)
    all_goals (refine E.OW.off rfl rfl rfl ?_)
    all_goals (refine E.OW.off rfl rfl rfl ?_)
    all_goals (refine E.OW.off rfl rfl rfl ?_)
    all_goals (refine E.OW.off rfl rfl rfl ?_)
    all_goals (refine E.OW.pure rfl rfl rfl (E.PV.pick_t rfl rfl rfl) ?_)
    all_goals (refine E.OW.pure rfl rfl rfl (E.PV.move rfl rfl) ?_)
    all_goals (refine E.OW.put 19 (.bool true) (v := .bool true) rfl rfl ?_)
    all_goals (refine E.OW.off rfl rfl rfl ?_)
    all_goals (refine E.OW.off rfl rfl rfl ?_)
    all_goals (refine E.OW.off rfl rfl rfl ?_)
    all_goals (refine E.OW.off rfl rfl rfl ?_)
    all_goals (refine E.OW.off rfl rfl rfl ?_)
    all_goals (refine E.OW.off rfl rfl rfl ?_)
    all_goals (refine E.OW.off rfl rfl rfl ?_)
    all_goals (refine E.OW.pure rfl rfl rfl (E.PV.pick_t rfl rfl rfl) ?_)
    all_goals (
      refine E.OW.nil ?_
      refine E.then_n ?_
      refine E.CW.cond rfl (fun hc => ?_) (fun hc => ?_)
      · simp only [E.b0, E.b1, E.b2, E.b3, E.b4, E.b5, E.b6, E.b7, E.b8, E.b9, E.b10, E.b11, E.b12, E.b13, E.b14, E.b15, E.b16, E.b17, E.b18, E.b19, E.b20, reduceCtorEq] at hc
        all_goals (
          refine E.CW.seq ?_
          refine E.CW.region ?_
          refine E.OW.pure rfl rfl rfl (E.PV.assign rfl rfl) ?_
          refine E.OW.nil ?_
          refine E.then_n ?_
          refine E.CW.ret ?_
          refine E.then_ret ?_
          refine E.KR.one [] Try.results50 rfl rfl ?_
          exact ⟨congrArg Value.bool (by first | exact (Rt.onLeg_off hTn (.inl hoa)).symm | exact (Rt.onLeg_off hTn (.inr hob)).symm | (rw [hol hoa hob]; first | (simp_all; done) | (simp_all; rfl))), rfl⟩)
      · (cases hc; done))
  · skip
    refine E.CW.region ?_
    refine E.OW.pure rfl rfl rfl (E.PV.loads (i := 1) is28 rfl rfl rfl rfl) ?_
    refine E.OW.pure rfl rfl rfl (E.PV.fieldAddr fa30_0 rfl rfl) ?_
    refine E.OW.pure rfl rfl rfl (E.PV.load (i := 0) na3 rfl rfl rfl rfl) ?_
    (refine E.OW.call nm62 rfl rfl rfl rfl rfl rfl _ (fun w hw => rOn_ok g a w ?_ ?_) ?_; (focus (refine hw.rdC ?_; assumption)); (focus (assumption)); rintro _ _ ⟨rfl, rfl⟩)
    refine E.OW.pure rfl rfl rfl (E.PV.not rfl rfl) ?_
    refine E.OW.pure rfl rfl rfl (E.PV.move rfl rfl) ?_
    all_goals (refine E.OW.put 12 (.bool true) rfl (congrArg Value.bool ?_) ?_; (focus ((simp only [E.b0, E.b1, E.b2, E.b3, E.b4, E.b5, E.b6, E.b7, E.b8, E.b9, E.b10, E.b11, E.b12, E.b13, E.b14, E.b15, E.b16, E.b17, E.b18, E.b19, E.b20]; omega))))
    all_goals (refine E.OW.off rfl rfl rfl ?_)
    all_goals (refine E.OW.off rfl rfl rfl ?_)
    all_goals (refine E.OW.off rfl rfl rfl ?_)
    all_goals (refine E.OW.off rfl rfl rfl ?_)
    all_goals (refine E.OW.off rfl rfl rfl ?_)
    all_goals (refine E.OW.pure rfl rfl rfl (E.PV.pick_t rfl rfl rfl) ?_)
    all_goals (refine E.OW.pure rfl rfl rfl (E.PV.move rfl rfl) ?_)
    all_goals (refine E.OW.put 19 (.bool true) (v := .bool true) rfl rfl ?_)
    all_goals (refine E.OW.off rfl rfl rfl ?_)
    all_goals (refine E.OW.off rfl rfl rfl ?_)
    all_goals (refine E.OW.off rfl rfl rfl ?_)
    all_goals (refine E.OW.off rfl rfl rfl ?_)
    all_goals (refine E.OW.off rfl rfl rfl ?_)
    all_goals (refine E.OW.off rfl rfl rfl ?_)
    all_goals (refine E.OW.off rfl rfl rfl ?_)
    all_goals (refine E.OW.pure rfl rfl rfl (E.PV.pick_t rfl rfl rfl) ?_)
    all_goals (
      refine E.OW.nil ?_
      refine E.then_n ?_
      refine E.CW.cond rfl (fun hc => ?_) (fun hc => ?_)
      · simp only [E.b0, E.b1, E.b2, E.b3, E.b4, E.b5, E.b6, E.b7, E.b8, E.b9, E.b10, E.b11, E.b12, E.b13, E.b14, E.b15, E.b16, E.b17, E.b18, E.b19, E.b20, reduceCtorEq] at hc
        all_goals (
          refine E.CW.seq ?_
          refine E.CW.region ?_
          refine E.OW.pure rfl rfl rfl (E.PV.assign rfl rfl) ?_
          refine E.OW.nil ?_
          refine E.then_n ?_
          refine E.CW.ret ?_
          refine E.then_ret ?_
          refine E.KR.one [] Try.results50 rfl rfl ?_
          exact ⟨congrArg Value.bool (by first | exact (Rt.onLeg_off hTn (.inl hoa)).symm | exact (Rt.onLeg_off hTn (.inr hob)).symm | (rw [hol hoa hob]; first | (simp_all; done) | (simp_all; rfl))), rfl⟩)
      · (cases hc; done))
end Go.Proofs.Ytflkbabhbnmajaa

/- Closed facts on the program (printed by gen.py). -/
namespace Go.Proofs.Ytflkbabhbnmajaa
open Go Go.RowKit
set_option linter.unusedSimpArgs false
set_option linter.unusedVariables false
theorem nm50 : E.Nm Try.prog 50 := ⟨Try.f50, Try.func50, rfl, by kernel_rfl⟩
end Go.Proofs.Ytflkbabhbnmajaa

/- Lengths of the lists of routes, plainly. -/
set_option linter.unusedSimpArgs false
set_option linter.unusedVariables false
namespace Go.Proofs.Ytflkbabhbnmajaa
namespace Rt
open Cf
theorem reachR_len (g : C) (t a b tick n : Int) : (reachR g t a b tick n).1.length ≤ g.l.length := by
  unfold reachR
  split
  · split
    · exact pls_len _ _
    · exact Nat.zero_le _
  · exact Nat.zero_le _
theorem routeR_len (g : C) (t a b tick : Int) : (routeR g t a b tick).1.length ≤ 1025 := by
  unfold routeR
  split
  · rename_i h
    split
    · exact Nat.zero_le _
    · have := arr_le (tick := tick) (leg_of h).1
      show (rts g t a b tick).length ≤ 1025
      unfold rts
      rw [List.length_map, Bf.rt_len]
      omega
  · exact Nat.zero_le _
end Rt
end Go.Proofs.Ytflkbabhbnmajaa

/- Shortest walks, plainly: waiting, routes as walks, the rest of a route. No program in sight. -/
set_option linter.unusedSimpArgs false
set_option linter.unusedVariables false
namespace Go.Proofs.Ytflkbabhbnmajaa
namespace Bf
theorem W_mod {x : G} {m k p : Nat} : W x m (k % x.K) p ↔ W x m k p := by
  cases m with
  | zero => exact Iff.rfl
  | succ m => simp only [W, Nat.mod_add_mod]
/-- who may always be at a place may wait there. -/
theorem W_wait {x : G} {a m : Nat} (hs : a ∈ x.nr a) (ha : ∀ k, k < x.K → x.al k a = true) (K0 : 0 < x.K) : ∀ j k, W x m ((k + j) % x.K) a → W x (m + j) k a := by
  intro j
  induction j with
  | zero => intro k h; exact W_mod.1 h
  | succ j ih =>
    intro k h
    refine ⟨a, hs, ha _ (Nat.mod_lt _ K0), ih ((k + 1) % x.K) ?_⟩
    rw [Nat.mod_add_mod, show k + 1 + j = k + (j + 1) by omega]; exact h
theorem arr_min {x : G} (ok : x.ok) {k p m : Nat} (hk : k < x.K) (hp : p < x.n) (hc : x.cell p = true) (h : W x m k p) : 0 ≤ arr x k p ∧ arr x k p ≤ m := by
  rcases arr_ar ok hk hp hc with ⟨_, h2⟩ | ⟨h1, _, _, h3⟩
  · exact absurd h (h2 m)
  · exact ⟨h1, h3 m h⟩
theorem arr_W {x : G} (ok : x.ok) {k p : Nat} (hk : k < x.K) (hp : p < x.n) (hc : x.cell p = true) (h : 0 ≤ arr x k p) : W x (arr x k p).toNat k p := by
  rcases arr_ar ok hk hp hc with ⟨h1, _⟩ | ⟨_, _, h2, _⟩
  · omega
  · exact h2
theorem arr_no {x : G} (ok : x.ok) {k p : Nat} (hk : k < x.K) (hp : p < x.n) (hc : x.cell p = true) (h : arr x k p < 0) : arr x k p = -1 ∧ ∀ m, ¬ W x m k p := by
  rcases arr_ar ok hk hp hc with ⟨h1, h2⟩ | ⟨h1, _⟩
  · exact ⟨h1, h2⟩
  · omega
theorem arr_is {x : G} (ok : x.ok) {k p m : Nat} (hk : k < x.K) (hp : p < x.n) (hc : x.cell p = true) (h : W x m k p) (hm : ∀ j, W x j k p → m ≤ j) : arr x k p = m := by
  have h1 := arr_min ok hk hp hc h
  have h2 := hm _ (arr_W ok hk hp hc h1.1)
  omega
/-- a route is a walk. -/
theorem rt_walk {x : G} (ok : x.ok) : ∀ m k p : Nat, k < x.K → p < x.n → x.cell p = true → arr x k p = (m : Int) →
    (∀ i, i < m → (rt x m k p).getD (i + 1) 0 ∈ x.nr ((rt x m k p).getD i 0) ∧ x.al ((k + i + 1) % x.K) ((rt x m k p).getD (i + 1) 0) = true) ∧ (rt x m k p).getD m 0 = x.goal ∧ (∀ i, i ≤ m → (rt x m k p).getD i 0 < x.n) := by
  intro m
  induction m with
  | zero =>
    intro k p hk hp hc h
    have hw := arr_W ok hk hp hc (by omega)
    rw [h] at hw
    refine ⟨fun i hi => by omega, hw, fun i hi => ?_⟩
    have : i = 0 := by omega
    subst this
    exact hp
  | succ m ih =>
    intro k p hk hp hc h
    obtain ⟨h1, h2, h3⟩ := nx_ok ok hk hp hc (m := m) (by rw [h]; rfl)
    have hk1 : (k + 1) % x.K < x.K := Nat.mod_lt _ ok.K0
    obtain ⟨g1, g2, g3⟩ := ih _ _ hk1 (ok.nrlt _ _ hp h1) (ok.alc _ _ h2) h3
    obtain ⟨r, hr⟩ := rt_head x m ((k + 1) % x.K) (nx x ((k + 1) % x.K) p ((m : Int) + 1))
    refine ⟨fun i hi => ?_, ?_, fun i hi => ?_⟩
    · cases i with
      | zero =>
        simp only [rt, hr, List.getD_cons_zero, List.getD_cons_succ, Nat.add_zero]
        exact ⟨h1, h2⟩
      | succ i =>
        have h4 := g1 i (by omega)
        simp only [rt, List.getD_cons_succ]
        refine ⟨h4.1, ?_⟩
        have h5 := h4.2
        rw [show ((k + 1) % x.K + i + 1) = (k + 1) % x.K + (i + 1) by omega, Nat.mod_add_mod] at h5
        rw [show k + (i + 1) + 1 = k + 1 + (i + 1) by omega]; exact h5
    · simp only [rt, List.getD_cons_succ]; exact g2
    · cases i with
      | zero => exact hp
      | succ i => simp only [rt, List.getD_cons_succ]; exact g3 i (by omega)
/-- a list of steps to the goal is a walk. -/
theorem steps_W {x : G} {k0 m : Nat} {l : List Nat} (hs : ∀ i, i < m → l.getD (i + 1) 0 ∈ x.nr (l.getD i 0) ∧ x.al ((k0 + i + 1) % x.K) (l.getD (i + 1) 0) = true) (hg : l.getD m 0 = x.goal) : ∀ j i, i + j = m → W x j ((k0 + i) % x.K) (l.getD i 0) := by
  intro j
  induction j with
  | zero => intro i hi; have : i = m := by omega
            subst this; exact hg
  | succ j ih =>
    intro i hi
    obtain ⟨h1, h2⟩ := hs i (by omega)
    refine ⟨_, h1, ?_, ?_⟩
    · rw [Nat.mod_add_mod]; exact h2
    · rw [Nat.mod_add_mod, show k0 + i + 1 = k0 + (i + 1) by omega]; exact ih (i + 1) (by omega)
/-! ### Two graphs that differ at one place alone -/
structure Sub (x y : G) (a : Nat) : Prop where
  n : y.n = x.n
  K : y.K = x.K
  nr : ∀ p, y.nr p = x.nr p
  goal : y.goal = x.goal
  al : ∀ k q, y.al k q = true → x.al k q = true
  al' : ∀ k q, q ≠ a → x.al k q = true → y.al k q = true
def G.to (x : G) (a : Nat) : G := { x with goal := a }
/-- no walk of m steps to the goal comes to a. -/
def Av (x : G) (a m k p : Nat) : Prop := ∀ j, j ≤ m → W (x.to a) j k p → ¬ W x (m - j) ((k + j) % x.K) a
theorem Av.next {x : G} {a m k p q : Nat} (h : Av x a (m + 1) k p) (h1 : q ∈ x.nr p) (h2 : x.al ((k + 1) % x.K) q = true) : Av x a m ((k + 1) % x.K) q := by
  intro j hj h3 h4
  refine h (j + 1) (by omega) ⟨q, h1, h2, h3⟩ ?_
  rw [Nat.mod_add_mod] at h4
  rw [show m + 1 - (j + 1) = m - j by omega, show k + (j + 1) = k + 1 + j by omega]; exact h4
theorem Av.ne {x : G} {a m k p : Nat} (h : Av x a m k p) (hw : W x m k p) : p ≠ a := by
  rintro rfl
  exact h 0 (Nat.zero_le _) rfl (W_mod.2 hw)
theorem Sub.wk {x y : G} {a : Nat} (s : Sub x y a) : ∀ {m k p}, W y m k p → W x m k p := by
  intro m
  induction m with
  | zero => intro k p h; exact (show p = y.goal from h).trans s.goal
  | succ m ih =>
    intro k p ⟨q, h1, h2, h3⟩
    rw [s.nr] at h1
    rw [s.K] at h2 h3
    exact ⟨q, h1, s.al _ _ h2, ih h3⟩
theorem Sub.wk' {x y : G} {a : Nat} (s : Sub x y a) : ∀ {m k p}, Av x a m k p → W x m k p → W y m k p := by
  intro m
  induction m with
  | zero => intro k p _ h; exact (show p = x.goal from h).trans s.goal.symm
  | succ m ih =>
    intro k p ha ⟨q, h1, h2, h3⟩
    have ha1 := ha.next h1 h2
    refine ⟨q, by rw [s.nr]; exact h1, by rw [s.K]; exact s.al' _ _ (ha1.ne h3) h2, by rw [s.K]; exact ih ha1 h3⟩
theorem Sub.arv {x y : G} {a : Nat} (s : Sub x y a) (okx : x.ok) (oky : y.ok) {m k p : Nat} (hk : k < x.K) (hp : p < x.n) (hc : x.cell p = true) (hd : y.cell p = true) (h : arr x k p = (m : Int)) (ha : Av x a m k p) : arr y k p = (m : Int) := by
  have hw := arr_W okx hk hp hc (by omega)
  rw [h, Int.toNat_natCast] at hw
  refine arr_is oky (by rw [s.K]; exact hk) (by rw [s.n]; exact hp) hd (s.wk' ha hw) fun j hj => ?_
  have := (arr_min okx hk hp hc (s.wk hj)).2
  omega
theorem find_congr {α : Type} {f g : α → Bool} : ∀ {l : List α}, (∀ q, q ∈ l → f q = g q) → l.find? f = l.find? g := by
  intro l
  induction l with
  | nil => intro _; rfl
  | cons b l ih =>
    intro h
    rw [List.find?_cons, List.find?_cons, h b List.mem_cons_self, ih fun q hq => h q (List.mem_cons_of_mem _ hq)]
theorem Sub.route {x y : G} {a : Nat} (s : Sub x y a) (okx : x.ok) (oky : y.ok) : ∀ {m k p : Nat}, k < x.K → p < x.n → x.cell p = true → arr x k p = (m : Int) → Av x a m k p → rt y m k p = rt x m k p := by
  intro m
  induction m with
  | zero => intro k p _ _ _ _ _; rfl
  | succ m ih =>
    intro k p hk hp hc h ha
    have hk1 : (k + 1) % x.K < x.K := Nat.mod_lt _ okx.K0
    have hn : nx y ((k + 1) % x.K) p ((m : Int) + 1) = nx x ((k + 1) % x.K) p ((m : Int) + 1) := by
      unfold nx
      rw [s.nr]
      congr 1
      apply find_congr
      intro q hq
      have hqn := okx.nrlt _ _ hp hq
      rw [Bool.eq_iff_iff]
      simp only [Bool.and_eq_true, decide_eq_true_eq]
      constructor
      · rintro ⟨h1, h2⟩
        have h3 := s.al _ _ h1
        refine ⟨h3, ?_⟩
        have hw := arr_W oky (by rw [s.K]; exact hk1) (by rw [s.n]; exact hqn) (oky.alc _ _ h1) (by omega)
        rw [h2, show ((m : Int) + 1 - 1).toNat = m by omega] at hw
        have h4 := arr_min okx hk1 hqn (okx.alc _ _ h3) (s.wk hw)
        have h5 := arr_min (m := (arr x ((k + 1) % x.K) q).toNat + 1) okx hk hp hc ⟨q, hq, h3, arr_W okx hk1 hqn (okx.alc _ _ h3) h4.1⟩
        omega
      · rintro ⟨h1, h2⟩
        have hw := arr_W okx hk1 hqn (okx.alc _ _ h1) (by omega)
        rw [h2, show ((m : Int) + 1 - 1).toNat = m by omega] at hw
        have ha1 := ha.next hq h1
        have h3 := s.al' _ _ (ha1.ne hw) h1
        refine ⟨h3, ?_⟩
        have := s.arv okx oky hk1 hqn (okx.alc _ _ h1) (oky.alc _ _ h3) (by omega) ha1
        omega
    obtain ⟨h1, h2, h3⟩ := nx_ok okx hk hp hc (m := m) (by rw [h]; rfl)
    show p :: rt y m ((k + 1) % y.K) (nx y ((k + 1) % y.K) p ((m : Int) + 1)) = p :: rt x m ((k + 1) % x.K) (nx x ((k + 1) % x.K) p ((m : Int) + 1))
    rw [s.K, hn, ih hk1 (okx.nrlt _ _ hp h1) (okx.alc _ _ h2) h3 (ha.next h1 h2)]
/-! ### Who starts at a place of one's own -/
/-- who is at the goal may wait there. -/
theorem W_more {x : G} (ok : x.ok) (hs : x.goal ∈ x.nr x.goal) : ∀ m j k p, W x m k p → W x (m + j) k p := by
  intro m
  induction m with
  | zero =>
    intro j k p h
    have : p = x.goal := h
    subst this
    have := W_wait (m := 0) hs ok.gal ok.K0 j k rfl
    exact this
  | succ m ih =>
    intro j k p ⟨q, h1, h2, h3⟩
    rw [show m + 1 + j = m + j + 1 by omega]
    exact ⟨q, h1, h2, ih j _ _ h3⟩
theorem W_iff {x : G} (ok : x.ok) (hs : x.goal ∈ x.nr x.goal) {k p m : Nat} (hk : k < x.K) (hp : p < x.n) (hc : x.cell p = true) : W x m k p ↔ 0 ≤ arr x k p ∧ arr x k p ≤ m := by
  constructor
  · exact fun h => arr_min ok hk hp hc h
  · rintro ⟨h1, h2⟩
    have h3 := W_more ok hs _ (m - (arr x k p).toNat) _ _ (arr_W ok hk hp hc h1)
    rw [show (arr x k p).toNat + (m - (arr x k p).toNat) = m by omega] at h3
    exact h3
/-! ### A table of arrivals that is right step by step -/
def good (x : G) (D : Nat → Nat → Int) : Bool :=
  (List.range x.K).all fun k => (List.range x.n).all fun p => !x.cell p ||
    (if p = x.goal then decide (D k p = 0)
     else (decide (D k p = -1) || (decide (1 ≤ D k p) && (x.nr p).any fun q => x.al ((k + 1) % x.K) q && decide (D ((k + 1) % x.K) q = D k p - 1))) &&
       (x.nr p).all fun q => !x.al ((k + 1) % x.K) q || decide (D ((k + 1) % x.K) q = -1) || (decide (0 ≤ D k p) && decide (D k p ≤ D ((k + 1) % x.K) q + 1)))
theorem good_at {x : G} {D : Nat → Nat → Int} (h : good x D = true) {k p : Nat} (hk : k < x.K) (hp : p < x.n) (hc : x.cell p = true) :
    (p = x.goal ∧ D k p = 0) ∨ (p ≠ x.goal ∧ (D k p = -1 ∨ (1 ≤ D k p ∧ ∃ q, q ∈ x.nr p ∧ x.al ((k + 1) % x.K) q = true ∧ D ((k + 1) % x.K) q = D k p - 1)) ∧
      ∀ q, q ∈ x.nr p → x.al ((k + 1) % x.K) q = true → D ((k + 1) % x.K) q = -1 ∨ (0 ≤ D k p ∧ D k p ≤ D ((k + 1) % x.K) q + 1)) := by
  have h1 := List.all_eq_true.1 (List.all_eq_true.1 h k (List.mem_range.2 hk)) p (List.mem_range.2 hp)
  rw [hc, Bool.not_true, Bool.false_or] at h1
  by_cases hg : p = x.goal
  · rw [if_pos hg] at h1; exact .inl ⟨hg, of_decide_eq_true h1⟩
  · rw [if_neg hg] at h1
    simp only [Bool.and_eq_true, Bool.or_eq_true, decide_eq_true_eq, List.any_eq_true, List.all_eq_true, Bool.not_eq_true'] at h1
    refine .inr ⟨hg, h1.1, fun q h2 h3 => ?_⟩
    rcases h1.2 q h2 with (h4 | h4) | h4
    · rw [h3] at h4; cases h4
    · exact .inl h4
    · exact .inr h4
theorem good_arr {x : G} (ok : x.ok) {D : Nat → Nat → Int} (h : good x D = true) {k p : Nat} (hk : k < x.K) (hp : p < x.n) (hc : x.cell p = true) : arr x k p = D k p := by
  have h1 : ∀ m k p : Nat, k < x.K → p < x.n → x.cell p = true → D k p = (m : Int) → W x m k p := by
    intro m
    induction m with
    | zero =>
      intro k p hk hp hc hd
      rcases good_at h hk hp hc with h2 | ⟨_, h2 | h2, _⟩
      · exact h2.1
      · omega
      · omega
    | succ m ih =>
      intro k p hk hp hc hd
      rcases good_at h hk hp hc with h2 | ⟨_, h2 | ⟨_, q, h3, h4, h5⟩, _⟩
      · omega
      · omega
      · exact ⟨q, h3, h4, ih _ _ (Nat.mod_lt _ ok.K0) (ok.nrlt _ _ hp h3) (ok.alc _ _ h4) (by omega)⟩
  have h2 : ∀ m k p : Nat, k < x.K → p < x.n → x.cell p = true → W x m k p → 0 ≤ D k p ∧ D k p ≤ m := by
    intro m
    induction m with
    | zero =>
      intro k p hk hp hc hw
      rcases good_at h hk hp hc with h3 | ⟨h3, _⟩
      · omega
      · exact absurd hw h3
    | succ m ih =>
      intro k p hk hp hc ⟨q, h3, h4, h5⟩
      have h6 := ih _ _ (Nat.mod_lt _ ok.K0) (ok.nrlt _ _ hp h3) (ok.alc _ _ h4) h5
      rcases good_at h hk hp hc with h7 | ⟨_, _, h7⟩
      · omega
      · have := h7 q h3 h4; omega
  have h3 : D k p = -1 ∨ 0 ≤ D k p := by
    rcases good_at h hk hp hc with h3 | ⟨_, h3 | h3, _⟩ <;> omega
  rcases h3 with h3 | h3
  · rcases Int.lt_or_le (arr x k p) 0 with h4 | h4
    · rw [(arr_no ok hk hp hc h4).1, h3]
    · have := h2 _ k p hk hp hc (arr_W ok hk hp hc h4); omega
  · have h4 := h1 (D k p).toNat k p hk hp hc (by omega)
    have h5 := arr_min ok hk hp hc h4
    have h6 := h2 _ k p hk hp hc (arr_W ok hk hp hc h5.1)
    omega
def nxD (x : G) (D : Nat → Nat → Int) (k p : Nat) (n : Int) : Nat := ((x.nr p).find? fun q => x.al k q && decide (D k q = n - 1)).getD p
def rtD (x : G) (D : Nat → Nat → Int) : Nat → Nat → Nat → List Nat
  | 0, _, p => [p]
  | m + 1, k, p => p :: rtD x D m ((k + 1) % x.K) (nxD x D ((k + 1) % x.K) p ((m : Int) + 1))
theorem good_rt {x : G} (ok : x.ok) {D : Nat → Nat → Int} (h : good x D = true) : ∀ {m k p : Nat}, p < x.n → rt x m k p = rtD x D m k p := by
  intro m
  induction m with
  | zero => intro k p _; rfl
  | succ m ih =>
    intro k p hp
    have hk1 : (k + 1) % x.K < x.K := Nat.mod_lt _ ok.K0
    have e : nx x ((k + 1) % x.K) p ((m : Int) + 1) = nxD x D ((k + 1) % x.K) p ((m : Int) + 1) := by
      unfold nx nxD
      congr 1
      apply find_congr
      intro q hq
      cases hal : x.al ((k + 1) % x.K) q with
      | false => rfl
      | true => rw [good_arr ok h hk1 (ok.nrlt _ _ hp hq) (ok.alc _ _ hal)]
    have hn : nxD x D ((k + 1) % x.K) p ((m : Int) + 1) < x.n := by
      unfold nxD
      cases hf : (x.nr p).find? fun q => x.al ((k + 1) % x.K) q && decide (D ((k + 1) % x.K) q = (m : Int) + 1 - 1) with
      | none => exact hp
      | some q => exact ok.nrlt _ _ hp (List.mem_of_find?_eq_some hf)
    show p :: rt x m _ _ = p :: rtD x D m _ _
    rw [e, ih hn]
end Bf
end Go.Proofs.Ytflkbabhbnmajaa

/- The outright laws of the routes, plainly. No program in sight. -/
set_option linter.unusedSimpArgs false
set_option linter.unusedVariables false
namespace Go.Proofs.Ytflkbabhbnmajaa
namespace Rt
open Cf
/-! ### who is allowed where -/
/-! ### one period later -/
theorem asked_later {g : C} {t tick next : Int} (h : check g = 0 → (tick ≤ 4611686018427389952 ↔ next ≤ 4611686018427389952)) : asked g t next = asked g t tick := by
  unfold asked
  by_cases hc : check g = 0
  · rw [if_pos hc, if_pos hc]
    have e : (present g.ts t = true ∧ next ≤ 4611686018427389952) ↔ (present g.ts t = true ∧ tick ≤ 4611686018427389952) := and_congr_right fun _ => (h hc).symm
    by_cases h1 : present g.ts t = true ∧ tick ≤ 4611686018427389952
    · rw [if_pos h1, if_pos (e.2 h1)]
    · rw [if_neg h1, if_neg fun h2 => h1 (e.1 h2)]
  · rw [if_neg hc, if_neg hc]
theorem legE_later {g : C} {t a b tick next : Int} (h : check g = 0 → (tick ≤ 4611686018427389952 ↔ next ≤ 4611686018427389952)) : legE g t a b next = legE g t a b tick := by
  unfold legE; rw [asked_later h]
theorem check_not (g : C) : ¬ check g = 130 := by
  unfold check
  split
  · split
    · split
      · split <;> decide
      · decide
    · decide
  · decide
theorem asked_not (g : C) (t tick : Int) : ¬ asked g t tick = 130 := by
  unfold asked
  split
  · split <;> decide
  · exact check_not g
theorem legE_not (g : C) (t a b tick : Int) : ¬ legE g t a b tick = 130 := by
  unfold legE
  split
  · split <;> decide
  · exact asked_not g t tick
/-! ### the plan's ends -/
theorem Leg.A {g : C} {t a b : Int} (h : Leg g t a b) : a.toNat < (G g t a b).n := by have := h.ra; show a.toNat < g.l.length; omega
theorem Leg.K {g : C} {t a b : Int} (h : Leg g t a b) (tick : Int) : ph g tick < (G g t a b).K := ph_lt h.c tick
theorem near_self (g : C) (p : Nat) : ∃ r, near g p = p :: r := ⟨_, rfl⟩
theorem near_me (g : C) (p : Nat) : p ∈ near g p := by obtain ⟨r, hr⟩ := near_self g p; rw [hr]; exact List.mem_cons_self
/-! ### routes are walks -/
theorem getD_cast (l : List Nat) (i : Nat) : (l.map fun (p : Nat) => (p : Int)).getD i 0 = ((l.getD i 0 : Nat) : Int) := by
  rw [List.getD_eq_getElem?_getD, List.getD_eq_getElem?_getD, List.getElem?_map]
  cases l[i]? <;> rfl
theorem getD_nat (l : List Int) (i : Nat) : (l.map Int.toNat).getD i 0 = (l.getD i 0).toNat := by
  rw [List.getD_eq_getElem?_getD, List.getD_eq_getElem?_getD, List.getElem?_map]
  cases l[i]? <;> rfl
theorem arv_zero {g : C} {t a b tick : Int} (h : (arrivalR g t a b tick).2 = 0) : Leg g t a b ∧ tick ≤ 4611686018427389952 ∧ 0 ≤ arrv g t a b tick ∧ (arrivalR g t a b tick).1 = arrv g t a b tick ∧ routeR g t a b tick = (rts g t a b tick, 0) := by
  obtain ⟨h1, h2, h3, h4⟩ := route_ok h
  exact ⟨(leg_of h1).1, (leg_of h1).2, h3, h2, h4⟩
theorem route_err2 (g : C) (t a b tick : Int) : (routeR g t a b tick).2 = (arrivalR g t a b tick).2 := by
  by_cases h : (arrivalR g t a b tick).2 = 0
  · rw [(route_ok h).2.2.2, h]
  · rw [route_err h]
theorem arv_small {g : C} {t a b tick : Int} (h : (arrivalR g t a b tick).2 = 0) : 0 ≤ (arrivalR g t a b tick).1 ∧ (arrivalR g t a b tick).1 ≤ 1024 := by
  obtain ⟨hL, _, h2, h3, _⟩ := arv_zero h
  have := arr_le (tick := tick) hL
  omega
theorem rts_len (g : C) (t a b tick : Int) : (rts g t a b tick).length = (arrv g t a b tick).toNat + 1 := by unfold rts; rw [List.length_map, Bf.rt_len]
theorem route_len {g : C} {t a b tick : Int} (h : (arrivalR g t a b tick).2 = 0) : ((routeR g t a b tick).1.length : Int) = (arrivalR g t a b tick).1 + 1 := by
  obtain ⟨_, _, h2, h3, h4⟩ := arv_zero h
  rw [h4, h3]
  show ((rts g t a b tick).length : Int) = _
  rw [rts_len]; omega
theorem rts_walk {g : C} {t a b tick : Int} (hL : Leg g t a b) (h : 0 ≤ arrv g t a b tick) : isWalk g t a b tick (rts g t a b tick) := by
  have hA : Bf.arr (G g t a b) (ph g tick) a.toNat = ((arrv g t a b tick).toNat : Int) := by show arrv g t a b tick = _; omega
  obtain ⟨h1, h2, h3⟩ := Bf.rt_walk (G_ok hL) _ _ _ (hL.K tick) hL.A (cell_from hL) hA
  obtain ⟨r, hr⟩ := Bf.rt_head (G g t a b) (arrv g t a b tick).toNat (ph g tick) a.toNat
  refine ⟨by rw [rts_len]; omega, ?_, ?_, ?_⟩
  · unfold rts; rw [getD_cast, hr]; exact Int.toNat_of_nonneg hL.ra.1
  · rw [rts_len, Nat.add_sub_cancel]
    unfold rts; rw [getD_cast, h2]; exact Int.toNat_of_nonneg hL.rb.1
  · rw [rts_len, Nat.add_sub_cancel]
    intro i hi
    unfold rts
    rw [getD_cast, getD_cast, Int.toNat_natCast, Int.toNat_natCast]
    exact ⟨by omega, h1 i hi⟩
theorem walk_W {g : C} {t a b tick : Int} {l : List Int} (hL : Leg g t a b) (h : isWalk g t a b tick l) : Bf.W (G g t a b) (l.length - 1) (ph g tick) a.toNat := by
  obtain ⟨h0, h1, h2, h3⟩ := h
  have := Bf.steps_W (x := G g t a b) (k0 := ph g tick) (m := l.length - 1) (l := l.map Int.toNat) (fun i hi => by rw [getD_nat, getD_nat]; exact (h3 i hi).2) (by rw [getD_nat, h2]; rfl) (l.length - 1) 0 (by omega)
  rw [getD_nat, h1, Nat.add_zero, Bf.W_mod] at this
  exact this
theorem walk_true {g : C} {t a b tick : Int} {l : List Int} (h : (walkR g t a b tick l).1 = true) : legE g t a b tick = 0 ∧ isWalk g t a b tick l := by
  unfold walkR at h
  by_cases h0 : legE g t a b tick = 0
  · rw [if_pos h0] at h
    by_cases h1 : l.length ≤ 1025
    · rw [if_pos h1] at h
      exact ⟨h0, @of_decide_eq_true _ (_) h⟩
    · rw [if_neg h1] at h; cases h
  · rw [if_neg h0] at h; cases h
/-- no walk is shorter than the arrival. -/
theorem walk_short {g : C} {t a b tick : Int} {l : List Int} (h : (walkR g t a b tick l).1 = true) : (arrivalR g t a b tick).2 = 0 ∧ (arrivalR g t a b tick).1 + 1 ≤ l.length := by
  obtain ⟨h0, hw⟩ := walk_true h
  have hL := (leg_of h0).1
  have h1 := Bf.arr_min (G_ok hL) (hL.K tick) hL.A (cell_from hL) (walk_W hL hw)
  have h2 := hw.1
  have h3 : arrivalR g t a b tick = (arrv g t a b tick, 0) := (if_pos h0).trans (if_neg (by show ¬ Bf.arr _ _ _ < 0; omega))
  rw [h3]
  refine ⟨rfl, ?_⟩
  show Bf.arr _ _ _ + 1 ≤ _
  omega
theorem walk_none {g : C} {t a b tick : Int} {l : List Int} (h : ¬ (arrivalR g t a b tick).2 = 0) : (walkR g t a b tick l).1 = false := by
  cases e : (walkR g t a b tick l).1 with
  | false => rfl
  | true => exact absurd (walk_short e).1 h
theorem walk_e {g : C} {t a b tick : Int} {l : List Int} (h : (arrivalR g t a b tick).2 = 0 ∨ (arrivalR g t a b tick).2 = 130) (hl : l.length ≤ 1025) : (walkR g t a b tick l).2 = 0 := by
  have h0 : legE g t a b tick = 0 := by
    refine Decidable.byContradiction fun hn => ?_
    rw [arv_err hn] at h
    have hl : legE g t a b tick = 0 ∨ legE g t a b tick = 130 := h
    have := legE_not g t a b tick
    omega
  unfold walkR
  rw [if_pos h0, if_pos hl]
theorem walk_route {g : C} {t a b tick : Int} (h : (arrivalR g t a b tick).2 = 0) : walkR g t a b tick (routeR g t a b tick).1 = (true, 0) := by
  have hs := arv_small h
  have hl := route_len h
  obtain ⟨hL, ht, h2, h3, h4⟩ := arv_zero h
  refine walk_yes (leg_err hL ht) (by omega) ?_
  rw [h4]
  exact rts_walk hL h2
theorem arv_zero_at {g : C} {t a b tick : Int} (h : (arrivalR g t a b tick).2 = 0) : (arrivalR g t a b tick).1 = 0 ↔ a = b := by
  obtain ⟨hL, ht, h2, h3, h4⟩ := arv_zero h
  rw [h3]
  have hw := Bf.arr_W (G_ok hL) (hL.K tick) hL.A (cell_from hL) h2
  have ha := hL.ra
  have hb := hL.rb
  constructor
  · intro h0
    rw [show Bf.arr (G g t a b) (ph g tick) a.toNat = 0 from h0] at hw
    have : a.toNat = b.toNat := hw
    omega
  · rintro rfl
    have := Bf.arr_min (m := 0) (G_ok hL) (hL.K tick) hL.A (cell_from hL) rfl
    show Bf.arr _ _ _ = 0
    omega
theorem next_at {g : C} {t a b tick : Int} (h : (arrivalR g t a b tick).2 = 0) : nextR g t a b tick = if (arrivalR g t a b tick).1 = 0 then (0, 6) else ((routeR g t a b tick).1.getD 1 0, 0) := by
  have hl := route_len h
  have hs := arv_small h
  unfold nextR
  rw [if_pos (by rw [route_err2]; exact h)]
  by_cases h0 : (arrivalR g t a b tick).1 = 0
  · rw [if_pos h0, if_pos (by omega)]
  · rw [if_neg h0, if_neg (by omega)]
end Rt
end Go.Proofs.Ytflkbabhbnmajaa

/- The outright laws of the routes, plainly: the rest of a route, waiting, reached places, rows, steps. No program in sight. -/
set_option linter.unusedSimpArgs false
set_option linter.unusedVariables false
namespace Go.Proofs.Ytflkbabhbnmajaa
namespace Rt
open Cf
/-! ### the rest of a route -/
/-! ### waiting -/
/-! ### reached places -/
theorem reach_of {g : C} {t a b tick n : Int} (h : (reachR g t a b tick n).2 = 0) : legE g t a b tick = 0 ∧ (0 ≤ n ∧ n ≤ 1024) ∧ (reachR g t a b tick n).1 = pls g.l.length (Bf.R (G g t a b) (ph g tick) a.toNat n.toNat) := by
  unfold reachR at *
  by_cases h0 : legE g t a b tick = 0
  · rw [if_pos h0] at h ⊢
    by_cases h1 : 0 ≤ n ∧ n ≤ 1024
    · rw [if_pos h1]; exact ⟨h0, h1, rfl⟩
    · rw [if_neg h1] at h; exact absurd h (show ¬ (2 : Int) = 0 by decide)
  · rw [if_neg h0] at h; exact absurd h h0
theorem reach_err {g : C} {t a b tick n : Int} (hn : 0 ≤ n ∧ n ≤ 1024) : (reachR g t a b tick n).2 = legE g t a b tick ∧ (¬ legE g t a b tick = 0 → (reachR g t a b tick n).1 = []) := by
  unfold reachR
  by_cases h0 : legE g t a b tick = 0
  · rw [if_pos h0, if_pos hn]; exact ⟨h0.symm, fun h => absurd h0 h⟩
  · rw [if_neg h0]; exact ⟨rfl, fun _ => rfl⟩
/-- the goal is reached from the arrival on. -/
theorem first_ok {g : C} {t a b tick n : Int} (hn : 0 ≤ n ∧ n ≤ 1024) (h : legE g t a b tick = 0) : ((arrivalR g t a b tick).2 = 130 ∧ ¬ b ∈ (reachR g t a b tick n).1) ∨ ((arrivalR g t a b tick).2 = 0 ∧ (b ∈ (reachR g t a b tick n).1 ↔ (arrivalR g t a b tick).1 ≤ n)) := by
  have hL := (leg_of h).1
  obtain ⟨_, _, hr⟩ := reach_of (g := g) (t := t) (a := a) (b := b) (tick := tick) (n := n) (by rw [(reach_err hn).1]; exact h)
  have hb := hL.rb
  have hm : b ∈ (reachR g t a b tick n).1 ↔ Bf.W (G g t a b) n.toNat (ph g tick) a.toNat := by
    rw [hr, pls_mem, ← Bf.R_iff (G_ok hL) hL.A (hL.K tick)]
    exact ⟨fun h => h.2.2, fun h => ⟨hb.1, hb.2, h⟩⟩
  have hi := Bf.W_iff (G_ok hL) (near_me g _) (m := n.toNat) (hL.K tick) hL.A (cell_from hL)
  rw [hm, hi, arv_of h]
  by_cases h1 : arrv g t a b tick < 0
  · rw [if_pos h1]
    refine .inl ⟨rfl, fun h2 => ?_⟩
    have : 0 ≤ arrv g t a b tick := h2.1
    omega
  · rw [if_neg h1]
    refine .inr ⟨rfl, ?_⟩
    show (0 ≤ arrv g t a b tick ∧ arrv g t a b tick ≤ _) ↔ arrv g t a b tick ≤ n
    omega
theorem reach_zero {g : C} {t a b tick : Int} (h : legE g t a b tick = 0) : (reachR g t a b tick 0).1 = [a] := by
  have hL := (leg_of h).1
  obtain ⟨_, _, hr⟩ := reach_of (g := g) (t := t) (a := a) (b := b) (tick := tick) (n := 0) (by rw [(reach_err (by omega)).1]; exact h)
  rw [hr]
  have ha := hL.ra
  have key : ∀ (m k : Nat), pls m (fun q => decide (q = k)) = if k < m then [(k : Int)] else [] := by
    intro m k
    induction m with
    | zero => rfl
    | succ m ih =>
      by_cases hk : m = k
      · subst hk
        rw [pls_yes (by simp), ih, if_neg (by omega), if_pos (by omega)]; rfl
      · rw [pls_no (by simp [hk]), ih]
        by_cases h1 : k < m
        · rw [if_pos h1, if_pos (by omega)]
        · rw [if_neg h1, if_neg (by omega)]
  show pls g.l.length (fun q => decide (q = a.toNat)) = [a]
  rw [key, if_pos (by omega), Int.toNat_of_nonneg ha.1]
/-- one place more. -/
theorem spreads_ok {g : C} {t a b tick n : Int} (hn : 1 ≤ n ∧ n ≤ 1024) (h : legE g t a b tick = 0) {p : Nat} (hp : p < g.l.length) :
    ((p : Int) ∈ (reachR g t a b tick n).1) ↔ ((∃ q, q ∈ (reachR g t a b tick (n - 1)).1 ∧ (p : Int) ∈ nearI g.a g.b q) ∧ (G g t a b).al (ph g (tick + n)) p = true) := by
  have hL := (leg_of h).1
  obtain ⟨_, _, h1⟩ := reach_of (g := g) (t := t) (a := a) (b := b) (tick := tick) (n := n) (by rw [(reach_err (by omega)).1]; exact h)
  obtain ⟨_, _, h2⟩ := reach_of (g := g) (t := t) (a := a) (b := b) (tick := tick) (n := n - 1) (by rw [(reach_err (by omega)).1]; exact h)
  have hph := ph_add hL.c (tick := tick) n.toNat
  rw [Int.toNat_of_nonneg (by omega)] at hph
  obtain ⟨m, hm⟩ : ∃ m, n.toNat = m + 1 := ⟨n.toNat - 1, by omega⟩
  rw [h1, h2, pls_mem, Int.toNat_natCast, show (n - 1).toNat = m by omega, hm, Bf.R_succ, hph, hm]
  constructor
  · rintro ⟨_, _, ⟨q, h3, h4, h5⟩, h6⟩
    exact ⟨⟨(q : Int), pls_mem.2 ⟨by omega, by have : q < g.l.length := h3; omega, by simpa using h4⟩, mem_near.1 h5⟩, h6⟩
  · rintro ⟨⟨q, h3, h4⟩, h6⟩
    obtain ⟨h7, h8, h9⟩ := pls_mem.1 h3
    refine ⟨by omega, by omega, ⟨q.toNat, by show q.toNat < g.l.length; omega, h9, ?_⟩, h6⟩
    show p ∈ near g q.toNat
    rw [mem_near, Int.toNat_of_nonneg h7]; exact h4
theorem free_of {g : C} {t a b p tick : Int} (h : legE g t a b tick = 0) (hp : 0 ≤ p ∧ p < (g.l.length : Int)) : freeR g t a b p tick = ((G g t a b).al (ph g tick) p.toNat, 0) := (if_pos h).trans (if_pos hp)
/-- one step apart, or the same. -/
theorem near_law {a b p q : Int} (hs : sides a b) (hp : 0 ≤ p ∧ p < a * b) (hq : 0 ≤ q ∧ q < a * b) : q ∈ nearI a b p ↔ (p = q ∨ (p / a = q / a ∧ (p = q + 1 ∨ q = p + 1)) ∨ p = q + a ∨ q = p + a) := by
  rw [near_mem]
  have e : (∃ d : Nat, d < 4 ∧ Fl.mv a b p d = q ∧ 0 ≤ q) ↔ Fl.dist a p q = 1 := by
    rw [Fl.dist_one hs hp hq]
    exact ⟨fun ⟨d, h1, h2, _⟩ => ⟨d, h1, h2⟩, fun ⟨d, h1, h2⟩ => ⟨d, h1, h2, hq.1⟩⟩
  rw [e, Fl.dist_ab]
  have hp1 := Int.emod_nonneg p (show a ≠ 0 by have := hs.1; omega)
  have hp2 := Int.emod_lt_of_pos p (show 0 < a by have := hs.1; omega)
  have hq1 := Int.emod_nonneg q (show a ≠ 0 by have := hs.1; omega)
  have hq2 := Int.emod_lt_of_pos q (show 0 < a by have := hs.1; omega)
  have ep := Int.emod_def p a
  have eq := Int.emod_def q a
  rcases (show a = 2 ∨ a = 3 ∨ a = 4 ∨ a = 5 ∨ a = 6 ∨ a = 7 ∨ a = 8 by have := hs; unfold sides at this; omega) with rfl | rfl | rfl | rfl | rfl | rfl | rfl <;>
  · unfold Fl.ab
    constructor
    · rintro (h | h)
      · omega
      · split at h <;> split at h <;> omega
    · intro h
      by_cases h0 : q = p
      · exact .inl h0
      · right
        split <;> split <;> omega
/-! ### rows -/
theorem legE_any {g : C} {t a b tick : Int} (ht : tick ≤ 4611686018427389952) : legE g t a b tick = legE g t a b 0 := legE_later fun _ => by omega
/-! ### step by step -/
theorem far_steps {g : C} {t a b tick : Int} (h : (arrivalR g t a b tick).2 = 0) {i : Nat} (hi : i + 1 < (routeR g t a b tick).1.length) :
    (Fl.adjacent g.a g.b ((routeR g t a b tick).1.getD i 0) ((routeR g t a b tick).1.getD (i + 1) 0)).2 = 0 ∧ ((Fl.adjacent g.a g.b ((routeR g t a b tick).1.getD i 0) ((routeR g t a b tick).1.getD (i + 1) 0)).1 = true ∨ (routeR g t a b tick).1.getD (i + 1) 0 = (routeR g t a b tick).1.getD i 0) ∧
    Fl.dist g.a ((routeR g t a b tick).1.getD i 0) ((routeR g t a b tick).1.getD (i + 1) 0) ≤ 1 := by
  have hlen := route_len h
  obtain ⟨hL, _, h2, h3, h4⟩ := arv_zero h
  have hA : Bf.arr (G g t a b) (ph g tick) a.toNat = ((arrv g t a b tick).toNat : Int) := by show arrv g t a b tick = _; omega
  obtain ⟨g1, g2, g3⟩ := Bf.rt_walk (G_ok hL) _ _ _ (hL.K tick) hL.A (cell_from hL) hA
  rw [h4] at hi ⊢
  have hi2 : i + 1 < (rts g t a b tick).length := hi
  rw [rts_len] at hi2
  show (Fl.adjacent g.a g.b ((rts g t a b tick).getD i 0) ((rts g t a b tick).getD (i + 1) 0)).2 = 0 ∧ ((Fl.adjacent g.a g.b ((rts g t a b tick).getD i 0) ((rts g t a b tick).getD (i + 1) 0)).1 = true ∨ (rts g t a b tick).getD (i + 1) 0 = (rts g t a b tick).getD i 0) ∧ Fl.dist g.a ((rts g t a b tick).getD i 0) ((rts g t a b tick).getD (i + 1) 0) ≤ 1
  unfold rts
  rw [getD_cast, getD_cast]
  have q1 := (g1 i (by omega)).1
  have q2 : (Bf.rt (G g t a b) (arrv g t a b tick).toNat (ph g tick) a.toNat).getD i 0 < g.l.length := g3 i (by omega)
  have q3 : (Bf.rt (G g t a b) (arrv g t a b tick).toNat (ph g tick) a.toNat).getD (i + 1) 0 < g.l.length := g3 (i + 1) (by omega)
  generalize (Bf.rt (G g t a b) (arrv g t a b tick).toNat (ph g tick) a.toNat).getD i 0 = p at *
  generalize (Bf.rt (G g t a b) (arrv g t a b tick).toNat (ph g tick) a.toNat).getD (i + 1) 0 = q at *
  have hp := has_at hL.c q2
  have hq := has_at hL.c q3
  have hln := len_of hL.c
  have hd : Fl.distance g.a g.b (p : Int) (q : Int) = (Fl.dist g.a p q, 0) := if_pos (by rw [hp, hq]; rfl)
  have e := near_mem.1 (mem_near.1 (show q ∈ near g p from q1))
  unfold Fl.adjacent
  rw [hd]
  refine ⟨rfl, ?_⟩
  rcases e with e | ⟨d, e1, e2, _⟩
  · refine ⟨.inr e, ?_⟩
    rw [e, Fl.dist_zero.2 rfl]; decide
  · have := (Fl.dist_one (sides_of hL.c) (p := (p : Int)) (q := (q : Int)) (by omega) (by omega)).2 ⟨d, e1, e2⟩
    rw [this]
    exact ⟨.inl rfl, Int.le_refl _⟩
theorem far_len {g : C} {t a b tick : Int} (h : (arrivalR g t a b tick).2 = 0) : Fl.distance g.a g.b a b = (Fl.dist g.a a b, 0) ∧ Fl.dist g.a a b ≤ ((routeR g t a b tick).1.length : Int) - 1 := by
  have hL := (arv_zero h).1
  have ha := has_at hL.c (p := a.toNat) (by have := hL.ra; omega)
  have hb := has_at hL.c (p := b.toNat) (by have := hL.rb; omega)
  rw [Int.toNat_of_nonneg hL.ra.1] at ha
  rw [Int.toNat_of_nonneg hL.rb.1] at hb
  refine ⟨if_pos (by rw [ha, hb]; rfl), ?_⟩
  have hlen := route_len h
  have hs := arv_small h
  have key : ∀ i : Nat, i < (routeR g t a b tick).1.length → Fl.dist g.a ((routeR g t a b tick).1.getD 0 0) ((routeR g t a b tick).1.getD i 0) ≤ i := by
    intro i
    induction i with
    | zero => intro _; rw [Fl.dist_zero.2 rfl]; decide
    | succ i ih =>
      intro hi
      have h1 := ih (by omega)
      have h2 := (far_steps h hi).2.2
      have h3 := Fl.dist_tri g.a ((routeR g t a b tick).1.getD 0 0) ((routeR g t a b tick).1.getD i 0) ((routeR g t a b tick).1.getD (i + 1) 0)
      omega
  have h1 := key ((routeR g t a b tick).1.length - 1) (by omega)
  have hw := (walk_true (show (walkR g t a b tick (routeR g t a b tick).1).1 = true by rw [walk_route h])).2
  rw [hw.2.1, hw.2.2.1] at h1
  omega
theorem far_leg {g : C} {t a b tick : Int} (h : (arrivalR g t a b tick).2 = 0) : onLeg g t a b = true := by
  have hL := (arv_zero h).1
  unfold onLeg
  simp only [Bool.and_eq_true, Bool.or_eq_true, decide_eq_true_eq]
  exact ⟨hL.ob, hL.oa⟩
theorem route_pos {g : C} {t a b tick : Int} (h : (arrivalR g t a b tick).2 = 0) : 1 ≤ (routeR g t a b tick).1.length := by
  have h1 := route_len h
  have h2 := arv_small h
  omega
theorem route_nil {g : C} {t a b tick : Int} (h : ¬ (arrivalR g t a b tick).2 = 0) : (routeR g t a b tick).1 = [] := by rw [route_err h]
end Rt
end Go.Proofs.Ytflkbabhbnmajaa

/- The outright laws of the routes, plainly: the longest leg, projections, the chapter's example. No program in sight. -/
set_option linter.unusedSimpArgs false
set_option linter.unusedVariables false
namespace Go.Proofs.Ytflkbabhbnmajaa
namespace Rt
open Cf
/-! ### the longest leg -/
theorem leg_ne {g : C} {t : Int} (h : Ten g t) {x : Int × Int} (hx : x ∈ legs (team g t)) : x.1 ≠ x.2 := by
  have hn := valid_nodup h.valid
  unfold spots at hn
  rw [List.nodup_append, List.nodup_append] at hn
  obtain ⟨⟨_, _, h1⟩, _, h2⟩ := hn
  unfold legs at hx
  simp only [List.mem_append, prs_mem] at hx
  rcases hx with (⟨h3, h4⟩ | ⟨h3, h4⟩) | ⟨h3, h4⟩
  · exact h1 _ h3 _ h4
  · exact h2 _ (List.mem_append.2 (.inr h3)) _ h4
  · exact fun e => h2 _ (List.mem_append.2 (.inl h4)) _ h3 e.symm
theorem mxl_ge {v : Int} : ∀ {l : List Int}, v ∈ l → v ≤ mxl l := by
  have key : ∀ (l : List Int) (m : Int), m ≤ l.foldl (fun m v => if m < v then v else m) m ∧ ∀ v, v ∈ l → v ≤ l.foldl (fun m v => if m < v then v else m) m := by
    intro l
    induction l with
    | nil => intro m; exact ⟨Int.le_refl _, fun v h => by cases h⟩
    | cons a r ih =>
      intro m
      rw [List.foldl_cons]
      obtain ⟨h1, h2⟩ := ih (if m < a then a else m)
      have h3 : m ≤ (if m < a then a else m) ∧ a ≤ (if m < a then a else m) := by split <;> omega
      refine ⟨by omega, fun v hv => ?_⟩
      rcases List.mem_cons.1 hv with rfl | hv
      · omega
      · exact h2 v hv
  intro l hv
  exact (key l 0).2 v hv
theorem sound_most {g : C} (h : check g = 0) (hs : soundR g = 0) {t : Int} (hp : present g.ts t = true) : 0 ≤ most g t := by
  have ht := pres_lt hp
  have := (sound_all h).1 hs t.toNat (by omega) (by rw [Int.toNat_of_nonneg ht.1]; exact hp)
  rwa [Int.toNat_of_nonneg ht.1] at this
theorem most_ok {g : C} {t : Int} (h : 0 ≤ most g t) : most g t = mxl ((legs (team g t)).flatMap (rowOf g t)) ∧ ∀ v ∈ (legs (team g t)).flatMap (rowOf g t), 0 ≤ v ∧ v ≤ most g t := by
  have h1 : ∀ v ∈ (legs (team g t)).flatMap (rowOf g t), 0 ≤ v := fun v hv => by
    refine Int.not_lt.1 fun hn => ?_
    rw [most_neg hv hn] at h
    omega
  have h2 := most_pos h1
  exact ⟨h2, fun v hv => ⟨h1 v hv, by rw [h2]; exact mxl_ge hv⟩⟩
theorem long_ok {g : C} {t : Int} (h : (longestR g t).2 = 0) : Ten g t ∧ soundR g = 0 ∧ (longestR g t).1 = most g t ∧ 0 ≤ most g t ∧ (legsR g t) = (legs (team g t), 0) ∧ boundR g t = (bd (team g t) (most g t), 0) := by
  obtain ⟨hT, hm⟩ := long_ten h
  have hs : soundR g = 0 := by
    unfold longestR at h
    rw [if_pos (asked_ok hT.c hT.p (by omega))] at h
    by_cases hs : soundR g = 0
    · exact hs
    · rw [if_neg hs] at h; exact absurd h hs
  refine ⟨hT, hs, hm, sound_most hT.c hs hT.p, if_pos (asked_ok hT.c hT.p (by omega)), ?_⟩
  unfold boundR
  rw [if_pos h, hm]
theorem long_no {g : C} {t : Int} (h : ¬ (longestR g t).2 = 0) : (longestR g t).1 = 0 ∧ boundR g t = (0, (longestR g t).2) := by
  refine ⟨?_, if_neg h⟩
  unfold longestR at *
  split
  · rename_i h1
    rw [if_pos h1] at h
    split
    · rename_i h2; rw [if_pos h2] at h; exact absurd rfl h
    · rfl
  · rfl
theorem long_leg {g : C} {t tick : Int} (h : (longestR g t).2 = 0) (ht : tick ≤ 4611686018427387904) {x : Int × Int} (hx : x ∈ legs (team g t)) :
    (arrivalR g t x.1 x.2 tick).2 = 0 ∧ 1 ≤ (arrivalR g t x.1 x.2 tick).1 ∧ (arrivalR g t x.1 x.2 tick).1 ≤ most g t ∧ tableR g t x.1 x.2 = (rowOf g t x, 0) := by
  obtain ⟨hT, hs, _, h1, _⟩ := long_ok h
  have hL := hT.leg hx
  have hle : ∀ k : Int, k ≤ 4611686018427387904 → legE g t x.1 x.2 k = 0 := fun k hk => leg_err hL (by omega)
  have hv : arrv g t x.1 x.2 tick ∈ (legs (team g t)).flatMap (rowOf g t) := List.mem_flatMap.2 ⟨x, hx, List.mem_of_getElem? (row_at (ph_lt hT.c tick))⟩
  have h2 := (most_ok h1).2 _ hv
  have e : arrivalR g t x.1 x.2 tick = (arrv g t x.1 x.2 tick, 0) := (if_pos (hle tick ht)).trans (if_neg (by omega))
  have h3 : ¬ (arrivalR g t x.1 x.2 tick).1 = 0 := fun h4 => leg_ne hT hx ((arv_zero_at (by rw [e])).1 h4)
  rw [e] at h3 ⊢
  have h3' : ¬ arrv g t x.1 x.2 tick = 0 := h3
  refine ⟨rfl, ?_, h2.2, if_pos (hle 0 (by omega))⟩
  show 1 ≤ arrv g t x.1 x.2 tick
  omega
theorem legs_count (m : T) : ((legs m).length : Int) = (m.h.length : Int) * m.p.length + (m.p.length : Int) * m.d.length + (m.d.length : Int) * m.h.length := by
  unfold legs
  simp only [List.length_append, prs_len, Int.natCast_add, Int.natCast_mul]
theorem bound_more {g : C} {t : Int} (hT : Ten g t) (h : 0 ≤ most g t) : most g t * ((team g t).n3 + (team g t).h.length) < bd (team g t) (most g t) := by
  obtain ⟨hh, _, _⟩ := hT.small
  obtain ⟨h1, h2, h3⟩ := hT.nums
  have hb := most_b hT
  generalize most g t = f at *
  obtain ⟨n, hn⟩ : ∃ n : Int, ((team g t).h.length : Int) = n := ⟨_, rfl⟩
  unfold bd
  rw [hn]
  have hn1 : 1 ≤ n ∧ n ≤ 3 := by omega
  generalize (team g t).n1 = x at *
  generalize (team g t).n2 = y at *
  generalize (team g t).n3 = z at *
  have e1 : (z + n + 1) * 1 ≤ (z + n + 1) * (4 * n + 8) := Int.mul_le_mul_of_nonneg_left (by omega) (by omega)
  have e2 : (z + n + 1) * (f + x + y + 4) ≤ (z + n + 1) * (4 * n + 8) * (f + x + y + 4) := Int.mul_le_mul_of_nonneg_right (by omega) (by omega)
  have e3 : (z + n + 1) * (f + 1) ≤ (z + n + 1) * (f + x + y + 4) := Int.mul_le_mul_of_nonneg_left (by omega) (by omega)
  have e4 : (z + n + 1) * (f + 1) = f * (z + n) + f + (z + n + 1) := by
    rw [Int.mul_add, Int.mul_one, Int.add_mul, Int.one_mul, Int.mul_comm (z + n) f]
  omega
/-! ### projections -/
theorem mine_only {g : C} {t p : Int} (hT : Ten g t) : mine (only g t) t p = mine g t p := by
  have hc := only_check hT.c hT.p
  have ht := hT.ten
  by_cases hp : 0 ≤ p ∧ p < g.l.length
  · rw [mine_ref hT.c hp ⟨ht.1, ht.2.1⟩, mine_ref hc (by show 0 ≤ p ∧ p < ((g.l.map (oc t)).length : Int); rw [List.length_map]; exact hp) ⟨ht.1, ht.2.1⟩]
    show Fl.own t ((g.l.map (oc t)).getD p.toNat 0) = _
    rw [getD_map (oc_zero t), own_oc ⟨ht.1, ht.2.1⟩]
  · unfold mine
    rw [owner_off hT.c hp, owner_off hc (by show ¬ (0 ≤ p ∧ p < ((g.l.map (oc t)).length : Int)); rw [List.length_map]; exact hp)]
theorem aisle_only {g : C} {t p : Int} (hT : Ten g t) : aisle (only g t) p = aisle g p := by
  have hc := only_check hT.c hT.p
  have ht := hT.ten
  by_cases hp : 0 ≤ p ∧ p < g.l.length
  · rw [aisle_ref hT.c hp, aisle_ref hc (by show 0 ≤ p ∧ p < ((g.l.map (oc t)).length : Int); rw [List.length_map]; exact hp)]
    show decide (Fl.ownerC ((g.l.map (oc t)).getD p.toNat 0) = -2) = _
    rw [getD_map (oc_zero t), aisle_oc ⟨ht.1, ht.2.1⟩]
  · unfold aisle
    rw [owner_off hT.c hp, owner_off hc (by show ¬ (0 ≤ p ∧ p < ((g.l.map (oc t)).length : Int)); rw [List.length_map]; exact hp)]
theorem sown_only {g : C} {t tick : Int} (hT : Ten g t) : decide (Fl.sown (only g t).s tick 0 = t) = decide (Fl.sown g.s tick 0 = t) := by
  have hl : Fl.ent (only g t).s tick 0 = Fl.ent g.s tick 0 := by
    unfold Fl.ent
    rw [show (only g t).s.length = g.s.length from List.length_map ..]
  unfold Fl.sown
  rw [hl]
  exact decide_eq_decide.2 (os_own hT.ten.1 _).1.symm
theorem has_only {g : C} {t a b p : Int} (hT : Ten g t) : has (only g t) t a b p = has g t a b p := by
  unfold has
  rw [aisle_only hT, mine_only hT, show team (only g t) t = team g t from only_team hT.c hT.p]
theorem alw_only {g : C} {t a b tick p : Int} (hT : Ten g t) : alw (only g t) t a b tick p = alw g t a b tick p := by
  unfold alw
  rw [has_only hT, mine_only hT, aisle_only hT, slo hT.c, slo (only_check hT.c hT.p), sown_only hT]
theorem G_only {g : C} {t a b : Int} (hT : Ten g t) : G (only g t) t a b = G g t a b := by
  unfold G
  rw [show (only g t).l.length = g.l.length from List.length_map .., show (only g t).s.length = g.s.length from List.length_map ..]
  congr 1
  · funext p; exact has_only hT
  · funext k p; exact alw_only hT
theorem asked_only {g : C} {t tick : Int} (hT : Ten g t) : asked (only g t) t tick = asked g t tick := by
  unfold asked
  rw [if_pos hT.c, if_pos (only_check hT.c hT.p), hT.p, only_present hT.p]
theorem allowed_only {g : C} {t p tick : Int} (hT : Ten g t) : allowed (only g t) t p tick = allowed g t p tick := by
  unfold allowed on
  rw [asked_only hT, show (only g t).l.length = g.l.length from List.length_map .., allows_mine hT.c, allows_mine (only_check hT.c hT.p), mine_only hT, aisle_only hT, sown_only hT]
theorem legE_only {g : C} {t a b tick : Int} (hT : Ten g t) : legE (only g t) t a b tick = legE g t a b tick := by
  have e : onLeg (only g t) t a b = onLeg g t a b := by
    have h1 : ∀ p, decide (owner (only g t) p = t) = decide (owner g p = t) := fun p => mine_only hT
    have h2 : ∀ p, decide (owner (only g t) p = -2) = decide (owner g p = -2) := fun p => aisle_only hT
    unfold onLeg
    rw [h1, h1, h2]
  unfold legE
  rw [asked_only hT, e]
theorem ph_only {g : C} {t : Int} (tick : Int) : ph (only g t) tick = ph g tick := by
  unfold ph; rw [show (only g t).s.length = g.s.length from List.length_map ..]
theorem route_only {g : C} {t a b tick : Int} (hT : Ten g t) : routeR (only g t) t a b tick = routeR g t a b tick := by
  unfold routeR rts arrv
  rw [legE_only hT, G_only hT, ph_only]
theorem most_only {g : C} {t : Int} (hT : Ten g t) : most (only g t) t = most g t := by
  have hr : rowOf (only g t) t = rowOf g t := by
    funext x
    unfold rowOf
    rw [G_only hT, show (only g t).s.length = g.s.length from List.length_map ..]
  unfold most
  rw [show team (only g t) t = team g t from only_team hT.c hT.p, hr]
theorem sound_only {g : C} {t : Int} (hT : Ten g t) : soundR (only g t) = 0 ↔ 0 ≤ most g t := by
  have hc := only_check hT.c hT.p
  rw [sound_all hc, ← most_only hT]
  have ht := hT.ten
  constructor
  · intro h
    have := h t.toNat (by show t.toNat < (oneTeam g.ts t g.ts.length).length; rw [one_len]; exact ht.2.2) (by rw [Int.toNat_of_nonneg ht.1]; exact only_present hT.p)
    rwa [Int.toNat_of_nonneg ht.1] at this
  · intro h k _ hp
    have : present (oneTeam g.ts t g.ts.length) (k : Int) = true := hp
    rw [one_present hT.p] at this
    rw [of_decide_eq_true this]; exact h
theorem onlyR_ten {g : C} {t : Int} (h : (onlyR g t).2 = 0) : Ten g t ∧ onlyR g t = (only g t, 0) := by
  unfold onlyR at *
  by_cases hc : check g = 0
  · rw [if_pos hc] at h ⊢
    by_cases hp : present g.ts t = true
    · rw [if_pos hp]; exact ⟨⟨hc, hp⟩, rfl⟩
    · rw [if_neg hp] at h; exact absurd h (show ¬ (2 : Int) = 0 by decide)
  · rw [if_neg hc] at h; exact absurd h hc
/-- the first i tenants are sound alone. -/
noncomputable def soundTo (g : C) (i : Nat) : Bool := decide (∀ j, j < i → 0 ≤ most g ((tenants g.ts g.ts.length).getD j 0))
theorem soundTo_zero (g : C) : soundTo g 0 = true := decide_eq_true fun j hj => by omega
theorem soundTo_succ {g : C} (h : check g = 0) {i : Nat} (hi : i < (tenants g.ts g.ts.length).length) : soundTo g (i + 1) = (soundTo g i && decide (soundR (only g ((tenants g.ts g.ts.length).getD i 0)) = 0)) := by
  have hT := ten_of h hi
  rw [Bool.eq_iff_iff, Bool.and_eq_true, decide_eq_true_eq]
  unfold soundTo
  rw [decide_eq_true_eq, decide_eq_true_eq, sound_only hT]
  constructor
  · exact fun hh => ⟨fun j hj => hh j (by omega), hh i (by omega)⟩
  · rintro ⟨h1, h2⟩ j hj
    rcases Nat.lt_succ_iff_lt_or_eq.1 hj with h3 | rfl
    · exact h1 j h3
    · exact h2
theorem soundTo_all {g : C} (h : check g = 0) {i : Nat} (hi : i = (tenants g.ts g.ts.length).length) : soundTo g i = decide (soundR g = 0) := by
  subst hi
  unfold soundTo
  refine decide_eq_decide.2 ⟨fun hh => sound_yes h hh, fun hs j hj => ?_⟩
  exact sound_most h hs (ten_of h hj).p
/-! ### the chapter's example -/
theorem stay_ok {g : C} {t a tick : Int} (h : legE g t a a tick = 0) : arrivalR g t a a tick = (0, 0) ∧ routeR g t a a tick = ([a], 0) := by
  have hL := (leg_of h).1
  have h1 := Bf.arr_min (m := 0) (G_ok hL) (hL.K tick) hL.A (cell_from hL) rfl
  have h2 : arrv g t a a tick = 0 := by show Bf.arr _ _ _ = 0; omega
  constructor
  · rw [arv_of h, if_neg (by omega), h2]
  · have : routeR g t a a tick = (rts g t a a tick, 0) := (if_pos h).trans (if_neg (by omega))
    rw [this]
    refine Prod.ext ?_ rfl
    show (Bf.rt (G g t a a) (arrv g t a a tick).toNat (ph g tick) a.toNat).map (fun (p : Nat) => (p : Int)) = [a]
    rw [h2]
    show [((a.toNat : Nat) : Int)] = [a]
    rw [Int.toNat_of_nonneg hL.ra.1]
def exd : List (List Int) := [[-1, 3, 2, 1, 0, 8, 4, 3, 2, 1, -1, -1, 4, -1, -1, -1, -1, -1, -1, -1], [-1, 7, 2, 1, 0, 7, 7, 3, 2, 1, -1, -1, -1, -1, -1, -1, -1, -1, -1, -1], [-1, 6, 2, 1, 0, 6, 6, 3, 2, 1, -1, -1, -1, -1, -1, -1, -1, -1, -1, -1], [-1, 5, 2, 1, 0, 5, 5, 3, 2, 1, -1, -1, -1, -1, -1, -1, -1, -1, -1, -1], [-1, 4, 2, 1, 0, 5, 4, 3, 2, 1, -1, -1, -1, -1, -1, -1, -1, -1, -1, -1], [-1, 3, 2, 1, 0, 5, 4, 3, 2, 1, -1, -1, 4, -1, -1, -1, -1, 5, -1, -1]]
def exD (k p : Nat) : Int := (exd.getD k []).getD p (-1)
theorem ex_good : Bf.good (G ex 0 5 4) exD = true := by decide +kernel
theorem ex_leg {tick : Int} (h : tick ≤ 4611686018427389952) : legE ex 0 5 4 tick = 0 := by
  rw [legE_any h]; decide +kernel
theorem ex_route {tick : Int} (h : tick ≤ 4611686018427389952) (h0 : 0 ≤ exD (ph ex tick) 5) : arrivalR ex 0 5 4 tick = (exD (ph ex tick) 5, 0) ∧
    routeR ex 0 5 4 tick = ((Bf.rtD (G ex 0 5 4) exD (exD (ph ex tick) 5).toNat (ph ex tick) 5).map fun (p : Nat) => (p : Int), 0) := by
  have hl := ex_leg h
  have hL := (leg_of hl).1
  have e : arrv ex 0 5 4 tick = exD (ph ex tick) 5 := Bf.good_arr (G_ok hL) ex_good (hL.K tick) hL.A (cell_from hL)
  constructor
  · rw [arv_of hl, if_neg (by omega), e]
  · have : routeR ex 0 5 4 tick = (rts ex 0 5 4 tick, 0) := (if_pos hl).trans (if_neg (by omega))
    rw [this]
    unfold rts
    rw [e]
    exact congrArg (fun l => (List.map (fun (p : Nat) => (p : Int)) l, (0 : Int))) (Bf.good_rt (G_ok hL) ex_good hL.A)
theorem ex_4 : arrivalR ex 0 5 4 4 = (5, 0) ∧ routeR ex 0 5 4 4 = ([5, 6, 1, 2, 3, 4], 0) := by
  have h := ex_route (tick := 4) (by omega) (by decide +kernel)
  rw [h.1, h.2]
  decide +kernel
theorem ex_5 : arrivalR ex 0 5 4 5 = (5, 0) ∧ routeR ex 0 5 4 5 = ([5, 6, 7, 8, 3, 4], 0) := by
  have h := ex_route (tick := 5) (by omega) (by decide +kernel)
  rw [h.1, h.2]
  decide +kernel
theorem ex_0 : arrivalR ex 0 5 4 0 = (8, 0) ∧ routeR ex 0 5 4 0 = ([5, 5, 5, 5, 6, 1, 2, 3, 4], 0) := by
  have h := ex_route (tick := 0) (by omega) (by decide +kernel)
  rw [h.1, h.2]
  decide +kernel
theorem ex_s : arrivalR ex 0 4 4 0 = (0, 0) ∧ routeR ex 0 4 4 0 = ([4], 0) := stay_ok (by decide +kernel)
theorem ex_al : allowed ex 0 7 6 = (true, 0) ∧ allowed ex 1 7 6 = (false, 0) ∧ allowed ex 0 7 8 = (false, 0) ∧ allowed ex 1 7 8 = (false, 0) ∧ allowed ex 1 12 9 = (true, 0) ∧ allowed ex 0 12 9 = (false, 0) ∧ allowed ex 0 5 8 = (true, 0) ∧ allowed ex 1 5 9 = (false, 0) := by decide +kernel
end Rt
end Go.Proofs.Ytflkbabhbnmajaa

/- Closed facts on the program (printed by gen.py). -/
namespace Go.Proofs.Ytflkbabhbnmajaa
open Go Go.RowKit
set_option linter.unusedSimpArgs false
set_option linter.unusedVariables false
theorem nm19 : E.Nm Try.prog 19 := ⟨Try.f19, Try.func19, rfl, by kernel_rfl⟩
theorem nm20 : E.Nm Try.prog 20 := ⟨Try.f20, Try.func20, rfl, by kernel_rfl⟩
theorem nm23 : E.Nm Try.prog 23 := ⟨Try.f23, Try.func23, rfl, by kernel_rfl⟩
theorem nm28 : E.Nm Try.prog 28 := ⟨Try.f28, Try.func28, rfl, by kernel_rfl⟩
theorem nm45 : E.Nm Try.prog 45 := ⟨Try.f45, Try.func45, rfl, by kernel_rfl⟩
end Go.Proofs.Ytflkbabhbnmajaa

/- Closed facts on the program (printed by gen.py). -/
namespace Go.Proofs.Ytflkbabhbnmajaa
open Go Go.RowKit
set_option linter.unusedSimpArgs false
set_option linter.unusedVariables false
theorem nm31 : E.Nm Try.prog 31 := ⟨Try.f31, Try.func31, rfl, by kernel_rfl⟩
theorem nm35 : E.Nm Try.prog 35 := ⟨Try.f35, Try.func35, rfl, by kernel_rfl⟩
end Go.Proofs.Ytflkbabhbnmajaa

/- Closed facts on the program (printed by gen.py). -/
namespace Go.Proofs.Ytflkbabhbnmajaa
open Go Go.RowKit
set_option linter.unusedSimpArgs false
set_option linter.unusedVariables false
theorem bsl31_6_0_1_2_3_4_5 (x0 : Int) (x1 : Int) (x2 : Int) (x3 : Int) (x4 : Int) (x5 : Int) (w : World) : (Instr.buildSlice 31 6 #[(0, .int .i64 x0), (1, .int .i64 x1), (2, .int .i64 x2), (3, .int .i64 x3), (4, .int .i64 x4), (5, .int .i64 x5)]).run Try.prog w = .ok (.slice (some ⟨w.heap.size, 0, none⟩) 6 6) (w.alloc (.cells #[.int .i64 x0, .int .i64 x1, .int .i64 x2, .int .i64 x3, .int .i64 x4, .int .i64 x5] 3)) := by kernel_rfl
theorem bsl31_9_0_1_2_3_4_5_6_7_8 (x0 : Int) (x1 : Int) (x2 : Int) (x3 : Int) (x4 : Int) (x5 : Int) (x6 : Int) (x7 : Int) (x8 : Int) (w : World) : (Instr.buildSlice 31 9 #[(0, .int .i64 x0), (1, .int .i64 x1), (2, .int .i64 x2), (3, .int .i64 x3), (4, .int .i64 x4), (5, .int .i64 x5), (6, .int .i64 x6), (7, .int .i64 x7), (8, .int .i64 x8)]).run Try.prog w = .ok (.slice (some ⟨w.heap.size, 0, none⟩) 9 9) (w.alloc (.cells #[.int .i64 x0, .int .i64 x1, .int .i64 x2, .int .i64 x3, .int .i64 x4, .int .i64 x5, .int .i64 x6, .int .i64 x7, .int .i64 x8] 3)) := by kernel_rfl
theorem nm110 : E.Nm Try.prog 110 := ⟨Try.f110, Try.func110, rfl, by kernel_rfl⟩
theorem nm80 : E.Nm Try.prog 80 := ⟨Try.f80, Try.func80, rfl, by kernel_rfl⟩
theorem nm81 : E.Nm Try.prog 81 := ⟨Try.f81, Try.func81, rfl, by kernel_rfl⟩
end Go.Proofs.Ytflkbabhbnmajaa

/- Walks (printed by gen.py). -/
namespace Go.Proofs.Ytflkbabhbnmajaa
open Go Go.RowKit
set_option linter.unusedSimpArgs false
set_option linter.unusedVariables false

set_option maxRecDepth 100000 in
theorem lal_ok (t p tick : Int) (b : Bool) (w0 : World) (ht : 0 ≤ tick ∧ tick < 18446744073709551616) (hA : Rt.allowed Cf.ex t p tick = (b, 0)) :
    Calls Try.prog 80 #[.int .i64 t, .int .i64 p, .int .u64 tick] w0 (E.Post w0 (E.Old w0) fun v Hn => v = .bool b ∧ Hn = []) := by
  refine E.calls_of (vs := [.int .i64 t, .int .i64 p, .int .u64 tick]) (H := []) Try.func80 Try.ntmps80 rfl rfl (E.HA.start w0) ?_
  refine E.CW.seq ?_
  refine E.CW.region ?_
  refine E.OW.pure rfl rfl rfl (E.PV.assign rfl rfl) ?_
  refine E.OW.nil ?_
  refine E.then_n ?_
  refine E.CW.seq ?_
  refine E.CW.region ?_
  (refine E.OW.call nm110 rfl rfl rfl rfl rfl rfl _ (fun w hw => Exa_ok w) ?_; rintro _ _ ⟨gX, rfl, rfl, hgX⟩)
  have hfX : gX.q.fit := hgX ▸ Cf.ex_fit
  refine E.OW.pure rfl rfl rfl (E.PV.move rfl rfl) ?_
  refine E.OW.pure rfl rfl rfl (E.PV.move rfl rfl) ?_
  refine E.OW.pure rfl rfl rfl (E.PV.move rfl rfl) ?_
  (refine E.OW.call nm31 rfl rfl rfl rfl rfl rfl _ (fun w hw => Ad_ok gX t p tick w ?_ hfX ht) ?_; (focus (exact hw.rdcfg (i := 0) rfl)); rintro _ _ ⟨rfl, rfl⟩)
  refine E.OW.pure rfl rfl rfl (E.PV.move rfl rfl) ?_
  refine E.OW.pure rfl rfl rfl (E.PV.extract rfl rfl rfl) ?_
  refine E.OW.pure rfl rfl rfl (E.PV.extract rfl rfl rfl) ?_
  refine E.OW.pure rfl rfl rfl (E.PV.assign rfl rfl) ?_
  refine E.OW.pure rfl rfl rfl (E.PV.assign rfl rfl) ?_
  refine E.OW.nil ?_
  refine E.then_n ?_
  refine E.CW.seq ?_
  refine E.CW.put 7 (.bool b) rfl (by rw [hgX, hA]; rfl) ?_
  refine E.CW.put 8 (.int .i64 0) rfl (by rw [hgX, hA]; rfl) ?_
  refine E.CW.region ?_
  refine E.OW.pure rfl rfl rfl (E.PV.move rfl rfl) ?_
  refine E.OW.pure rfl rfl rfl (E.PV.move rfl rfl) ?_
  all_goals (refine E.OW.split 18 rfl (fun hc => ?_) (fun hc => ?_) <;> (try simp only [E.b0, E.b1, E.b2, E.b3, E.b4, E.b5, E.b6, E.b7, E.b8, E.b9, E.b10, E.b11, E.b12, E.b13, E.b14, E.b15, E.b16, E.b17, E.b18, E.b19, E.b20, reduceCtorEq] at hc) <;> (try (exfalso; first | assumption | contradiction | omega)))
  all_goals (first | (refine E.OW.off rfl rfl rfl ?_) | (refine E.OW.pure rfl rfl rfl (E.PV.move rfl rfl) ?_))
  all_goals (first | (refine E.OW.off rfl rfl rfl ?_) | (refine E.OW.pure rfl rfl rfl (E.PV.eql rfl rfl rfl) ?_))
  all_goals (first | (refine E.OW.pure rfl rfl rfl (E.PV.pick_t rfl rfl rfl) ?_) | (refine E.OW.pure rfl rfl rfl (E.PV.pick_f rfl rfl rfl) ?_))
  all_goals (refine E.OW.pure rfl rfl rfl (E.PV.assign rfl rfl) ?_)
  all_goals (
    refine E.OW.nil ?_
    refine E.then_n ?_
    refine E.CW.ret ?_
    refine E.KR.one [] Try.results80 rfl rfl ?_
    exact ⟨by cases b <;> simp_all, rfl⟩)

set_option maxRecDepth 100000 in
theorem goes_ok (a b tick : Int) (A : Option Addr) (c : Nat) (l : List Int) (w0 : World) (ht : 0 ≤ tick ∧ tick < 18446744073709551616) (hX : E.Rd w0 (E.Old w0) A (E.ints l)) (hll : l.length ≤ 1000) (hO : Rt.arrivalR Cf.ex 0 a b tick = ((l.length : Int) - 1, 0) ∧ Rt.routeR Cf.ex 0 a b tick = (l, 0)) :
    Calls Try.prog 81 #[.int .i64 a, .int .i64 b, .int .u64 tick, .slice A l.length c] w0 (E.Post w0 (E.Old w0) fun v Hn => v = .bool true ∧ Hn = []) := by
  refine E.calls_of (vs := [.int .i64 a, .int .i64 b, .int .u64 tick, .slice A l.length c]) (H := []) Try.func81 Try.ntmps81 rfl rfl (E.HA.start w0) ?_
  refine E.CW.seq ?_
  refine E.CW.region ?_
  refine E.OW.pure rfl rfl rfl (E.PV.assign rfl rfl) ?_
  refine E.OW.nil ?_
  refine E.then_n ?_
  refine E.CW.seq ?_
  refine E.CW.region ?_
  refine E.OW.pure rfl rfl rfl (E.PV.move rfl rfl) ?_
  refine E.OW.pure rfl rfl rfl (E.PV.move rfl rfl) ?_
  refine E.OW.pure rfl rfl rfl (E.PV.build (ps := [(0, .tmp 14), (1, .tmp 15)]) rfl rfl (fun w => bld30_0_1 _ _ w)) ?_
  refine E.OW.alloc (in30.zr) rfl rfl rfl rfl rfl (fun B1 => ?_)
  refine E.OW.store (i := 0) in30.size rfl rfl rfl rfl rfl rfl rfl rfl rfl ?_
  refine E.OW.nil ?_
  refine E.then_n ?_
  refine E.CW.seq ?_
  refine E.CW.drawx mixed [0] rfl ?_
  all_goals (refine E.AW.first 1 rfl (by kernel_rfl) (by kernel_rfl) (by kernel_rfl) rfl rfl rfl (E.PV.loads (i := 0) is30 rfl rfl rfl rfl) ?_)
  all_goals (refine E.AW.first 2 rfl (by kernel_rfl) (by kernel_rfl) (by kernel_rfl) rfl rfl rfl (E.PV.move rfl rfl) ?_)
  all_goals (refine E.AW.one 0 (by kernel_rfl) rfl ?_)
  all_goals ((refine E.OW.call nm110 rfl rfl rfl rfl rfl rfl _ (fun w hw => Exa_ok w) ?_; rintro _ _ ⟨gX, rfl, rfl, hgX⟩))
  all_goals (first | (refine E.AW.nil [0] rfl ?_) | (refine E.AW.nil [1] rfl ?_) | (refine E.AW.nil [2] rfl ?_) | (refine E.AW.nil [3] rfl ?_) | (refine E.AW.nil [4] rfl ?_) | (refine E.AW.nil [5] rfl ?_) | (refine E.AW.nil [6] rfl ?_) | (refine E.AW.nil [0] rfl ?_) | (refine E.AW.nil [0] rfl ?_))
  all_goals (have hfX : gX.q.fit := hgX ▸ Cf.ex_fit)
  all_goals (refine E.AW.one 3 (by kernel_rfl) rfl ?_)
  all_goals ((refine E.OW.call nm40 rfl rfl rfl rfl rfl rfl _ (fun w hw => Ro_ok gX 0 a b tick w ?_ hfX ht) ?_; (focus (exact hw.rdcfg (i := 0) rfl)); rintro _ _ ⟨ARo, cRo, rfl, rfl⟩))
  all_goals (first | (refine E.AW.nil [0] rfl ?_) | (refine E.AW.nil [1] rfl ?_) | (refine E.AW.nil [2] rfl ?_) | (refine E.AW.nil [3] rfl ?_) | (refine E.AW.nil [4] rfl ?_) | (refine E.AW.nil [5] rfl ?_) | (refine E.AW.nil [6] rfl ?_) | (refine E.AW.nil [0] rfl ?_) | (refine E.AW.nil [0] rfl ?_))
  all_goals (refine E.AW.first 4 rfl (by kernel_rfl) (by kernel_rfl) (by kernel_rfl) rfl rfl rfl (E.PV.move rfl rfl) ?_)
  all_goals (refine E.AW.first 5 rfl (by kernel_rfl) (by kernel_rfl) (by kernel_rfl) rfl rfl rfl (E.PV.extract rfl rfl rfl) ?_)
  all_goals (refine E.AW.first 6 rfl (by kernel_rfl) (by kernel_rfl) (by kernel_rfl) rfl rfl rfl (E.PV.extract rfl rfl rfl) ?_)
  all_goals (refine E.AW.first 7 rfl (by kernel_rfl) (by kernel_rfl) (by kernel_rfl) rfl rfl rfl (E.PV.assign rfl rfl) ?_)
  all_goals (refine E.AW.first 8 rfl (by kernel_rfl) (by kernel_rfl) (by kernel_rfl) rfl rfl rfl (E.PV.assign rfl rfl) ?_)
  all_goals (refine E.AW.done (by kernel_rfl) ?_)
  all_goals (
    skip
    refine E.then_n ?_
    refine E.CW.seq ?_
    refine E.CW.put 10 (.slice ARo l.length cRo) rfl (by rw [hgX, hO.2]; rfl) ?_
    refine E.CW.put 11 (.int .i64 0) rfl (by rw [hgX, hO.2]; rfl) ?_
    refine E.CW.chunk 0 (E.HP.row 3 1 ARo l.length cRo (E.ints l)) rfl (by rw [hgX, hO.2]) ?_
    refine E.CW.drawx mixed [2] rfl ?_
    all_goals (refine E.AW.first 1 rfl (by kernel_rfl) (by kernel_rfl) (by kernel_rfl) rfl rfl rfl (E.PV.loads (i := 0) is30 rfl rfl rfl rfl) ?_)
    all_goals (refine E.AW.first 2 rfl (by kernel_rfl) (by kernel_rfl) (by kernel_rfl) rfl rfl rfl (E.PV.move rfl rfl) ?_)
    all_goals (refine E.AW.one 0 (by kernel_rfl) rfl ?_)
    all_goals ((refine E.OW.call nm110 rfl rfl rfl rfl rfl rfl _ (fun w hw => Exa_ok w) ?_; rintro _ _ ⟨gY, rfl, rfl, hgY⟩))
    all_goals (first | (refine E.AW.nil [2] rfl ?_) | (refine E.AW.nil [3] rfl ?_) | (refine E.AW.nil [4] rfl ?_) | (refine E.AW.nil [5] rfl ?_) | (refine E.AW.nil [6] rfl ?_) | (refine E.AW.nil [7] rfl ?_) | (refine E.AW.nil [8] rfl ?_) | (refine E.AW.nil [1] rfl ?_) | (refine E.AW.nil [0] rfl ?_))
    all_goals (have hfY : gY.q.fit := hgY ▸ Cf.ex_fit)
    all_goals (refine E.AW.one 3 (by kernel_rfl) rfl ?_)
    all_goals ((refine E.OW.call nm39 rfl rfl rfl rfl rfl rfl _ (fun w hw => Arv_ok gY 0 a b tick w ?_ hfY ht) ?_; (focus (exact hw.rdcfg (i := 0) rfl)); rintro _ _ ⟨rfl, rfl⟩))
    all_goals (first | (refine E.AW.nil [2] rfl ?_) | (refine E.AW.nil [3] rfl ?_) | (refine E.AW.nil [4] rfl ?_) | (refine E.AW.nil [5] rfl ?_) | (refine E.AW.nil [6] rfl ?_) | (refine E.AW.nil [7] rfl ?_) | (refine E.AW.nil [8] rfl ?_) | (refine E.AW.nil [1] rfl ?_) | (refine E.AW.nil [0] rfl ?_))
    all_goals (refine E.AW.first 4 rfl (by kernel_rfl) (by kernel_rfl) (by kernel_rfl) rfl rfl rfl (E.PV.move rfl rfl) ?_)
    all_goals (refine E.AW.first 5 rfl (by kernel_rfl) (by kernel_rfl) (by kernel_rfl) rfl rfl rfl (E.PV.extract rfl rfl rfl) ?_)
    all_goals (refine E.AW.first 6 rfl (by kernel_rfl) (by kernel_rfl) (by kernel_rfl) rfl rfl rfl (E.PV.extract rfl rfl rfl) ?_)
    all_goals (refine E.AW.first 7 rfl (by kernel_rfl) (by kernel_rfl) (by kernel_rfl) rfl rfl rfl (E.PV.assign rfl rfl) ?_)
    all_goals (refine E.AW.first 8 rfl (by kernel_rfl) (by kernel_rfl) (by kernel_rfl) rfl rfl rfl (E.PV.assign rfl rfl) ?_)
    all_goals (refine E.AW.done (by kernel_rfl) ?_)
    all_goals (
      skip
      refine E.then_n ?_
      refine E.CW.seq ?_
      refine E.CW.put 12 (.int .i64 ((l.length : Int) - 1)) rfl (by rw [hgY, hO.1]; rfl) ?_
      refine E.CW.put 13 (.int .i64 0) rfl (by rw [hgY, hO.1]; rfl) ?_
      refine E.CW.region ?_
      refine E.OW.pure rfl rfl rfl (E.PV.move rfl rfl) ?_
      refine E.OW.pure rfl rfl rfl (E.PV.eql rfl rfl rfl) ?_
      refine E.OW.pure rfl rfl rfl (E.PV.move rfl rfl) ?_
      all_goals (refine E.OW.put 33 (.bool true) (v := .bool true) rfl rfl ?_)
      all_goals (refine E.OW.pure rfl rfl rfl (E.PV.move rfl rfl) ?_)
      all_goals (refine E.OW.pure rfl rfl rfl (E.PV.eql rfl rfl rfl) ?_)
      all_goals (refine E.OW.pure rfl rfl rfl (E.PV.pick_t rfl rfl rfl) ?_)
      all_goals (refine E.OW.pure rfl rfl rfl (E.PV.move rfl rfl) ?_)
      all_goals (refine E.OW.put 37 (.bool true) (v := .bool true) rfl rfl ?_)
      all_goals (refine E.OW.pure rfl rfl rfl (E.PV.move rfl rfl) ?_)
      all_goals (refine E.OW.pure rfl rfl rfl (E.PV.move rfl rfl) ?_)
      all_goals ((refine E.OW.call nm22 rfl rfl rfl rfl rfl rfl _ (fun w hw => rSameInts_ok _ _ (l) _ _ (l) w ?_ ?_ ?_) ?_; (focus (omega)); (focus (exact hw.rdrow (i := 1) rfl)); (focus (refine hw.rd ?_; assumption)); rintro _ _ ⟨rfl, rfl⟩))
      all_goals (refine E.OW.pure rfl rfl rfl (E.PV.pick_t rfl rfl rfl) ?_)
      all_goals (refine E.OW.pure rfl rfl rfl (E.PV.move rfl rfl) ?_)
      all_goals (refine E.OW.put 42 (.bool true) rfl (congrArg Value.bool ?_) ?_; (focus ((simp only [E.b0, E.b1, E.b2, E.b3, E.b4, E.b5, E.b6, E.b7, E.b8, E.b9, E.b10, E.b11, E.b12, E.b13, E.b14, E.b15, E.b16, E.b17, E.b18, E.b19, E.b20]; done))))
      all_goals (refine E.OW.pure rfl rfl rfl (E.PV.move rfl rfl) ?_)
      all_goals (refine E.OW.pure rfl rfl rfl (E.PV.move rfl rfl) ?_)
      all_goals (refine E.OW.pure rfl rfl rfl (E.PV.len Try.underlying31 rfl rfl) ?_)
      all_goals (refine E.OW.pure rfl rfl rfl (E.PV.sub_i64 rfl rfl rfl ?_) ?_; (focus (omega)))
      all_goals (refine E.OW.pure rfl rfl rfl (E.PV.eql rfl rfl rfl) ?_)
      all_goals (refine E.OW.pure rfl rfl rfl (E.PV.pick_t rfl rfl rfl) ?_)
      all_goals (refine E.OW.pure rfl rfl rfl (E.PV.assign rfl rfl) ?_)
      all_goals (
        refine E.OW.nil ?_
        refine E.then_n ?_
        refine E.CW.ret ?_
        refine E.KR.one [] Try.results81 rfl rfl ?_
        exact ⟨by simp, rfl⟩)))

set_option maxRecDepth 100000 in
theorem alive4_ok  (w0 : World) :
    Calls Try.prog 38 #[] w0 (E.Post w0 (E.Old w0) fun v Hn => v = .bool true ∧ Hn = []) := by
  refine E.calls_of (vs := []) (H := []) Try.func38 Try.ntmps38 rfl rfl (E.HA.start w0) ?_
  refine E.CW.seq ?_
  refine E.CW.region ?_
  refine E.OW.pure rfl rfl rfl (E.PV.assign rfl rfl) ?_
  refine E.OW.nil ?_
  refine E.then_n ?_
  refine E.CW.seq ?_
  refine E.CW.region ?_
  (refine E.OW.call nm80 rfl rfl rfl rfl rfl rfl _ (fun w hw => lal_ok 0 7 6 _ w (by omega) Rt.ex_al.1) ?_; rintro _ _ ⟨rfl, rfl⟩)
  refine E.OW.pure rfl rfl rfl (E.PV.move rfl rfl) ?_
  all_goals (refine E.OW.put 4 (.bool true) (v := .bool true) rfl rfl ?_)
  all_goals ((refine E.OW.call nm80 rfl rfl rfl rfl rfl rfl _ (fun w hw => lal_ok 1 7 6 _ w (by omega) Rt.ex_al.2.1) ?_; rintro _ _ ⟨rfl, rfl⟩))
  all_goals (refine E.OW.pure rfl rfl rfl (E.PV.not rfl rfl) ?_)
  all_goals (refine E.OW.pure rfl rfl rfl (E.PV.pick_t rfl rfl rfl) ?_)
  all_goals (refine E.OW.pure rfl rfl rfl (E.PV.move rfl rfl) ?_)
  all_goals (refine E.OW.put 8 (.bool true) (v := .bool true) rfl rfl ?_)
  all_goals ((refine E.OW.call nm80 rfl rfl rfl rfl rfl rfl _ (fun w hw => lal_ok 0 7 8 _ w (by omega) Rt.ex_al.2.2.1) ?_; rintro _ _ ⟨rfl, rfl⟩))
  all_goals (refine E.OW.pure rfl rfl rfl (E.PV.not rfl rfl) ?_)
  all_goals (refine E.OW.pure rfl rfl rfl (E.PV.pick_t rfl rfl rfl) ?_)
  all_goals (refine E.OW.pure rfl rfl rfl (E.PV.move rfl rfl) ?_)
  all_goals (refine E.OW.put 12 (.bool true) (v := .bool true) rfl rfl ?_)
  all_goals ((refine E.OW.call nm80 rfl rfl rfl rfl rfl rfl _ (fun w hw => lal_ok 1 7 8 _ w (by omega) Rt.ex_al.2.2.2.1) ?_; rintro _ _ ⟨rfl, rfl⟩))
  all_goals (refine E.OW.pure rfl rfl rfl (E.PV.not rfl rfl) ?_)
  all_goals (refine E.OW.pure rfl rfl rfl (E.PV.pick_t rfl rfl rfl) ?_)
  all_goals (refine E.OW.pure rfl rfl rfl (E.PV.move rfl rfl) ?_)
  all_goals (refine E.OW.put 16 (.bool true) (v := .bool true) rfl rfl ?_)
  all_goals ((refine E.OW.call nm80 rfl rfl rfl rfl rfl rfl _ (fun w hw => lal_ok 1 12 9 _ w (by omega) Rt.ex_al.2.2.2.2.1) ?_; rintro _ _ ⟨rfl, rfl⟩))
  all_goals (refine E.OW.pure rfl rfl rfl (E.PV.pick_t rfl rfl rfl) ?_)
  all_goals (refine E.OW.pure rfl rfl rfl (E.PV.move rfl rfl) ?_)
  all_goals (refine E.OW.put 19 (.bool true) (v := .bool true) rfl rfl ?_)
  all_goals ((refine E.OW.call nm80 rfl rfl rfl rfl rfl rfl _ (fun w hw => lal_ok 0 12 9 _ w (by omega) Rt.ex_al.2.2.2.2.2.1) ?_; rintro _ _ ⟨rfl, rfl⟩))
  all_goals (refine E.OW.pure rfl rfl rfl (E.PV.not rfl rfl) ?_)
  all_goals (refine E.OW.pure rfl rfl rfl (E.PV.pick_t rfl rfl rfl) ?_)
  all_goals (refine E.OW.pure rfl rfl rfl (E.PV.move rfl rfl) ?_)
  all_goals (refine E.OW.put 23 (.bool true) (v := .bool true) rfl rfl ?_)
  all_goals ((refine E.OW.call nm80 rfl rfl rfl rfl rfl rfl _ (fun w hw => lal_ok 0 5 8 _ w (by omega) Rt.ex_al.2.2.2.2.2.2.1) ?_; rintro _ _ ⟨rfl, rfl⟩))
  all_goals (refine E.OW.pure rfl rfl rfl (E.PV.pick_t rfl rfl rfl) ?_)
  all_goals (refine E.OW.pure rfl rfl rfl (E.PV.move rfl rfl) ?_)
  all_goals (refine E.OW.put 26 (.bool true) (v := .bool true) rfl rfl ?_)
  all_goals ((refine E.OW.call nm80 rfl rfl rfl rfl rfl rfl _ (fun w hw => lal_ok 1 5 9 _ w (by omega) Rt.ex_al.2.2.2.2.2.2.2) ?_; rintro _ _ ⟨rfl, rfl⟩))
  all_goals (refine E.OW.pure rfl rfl rfl (E.PV.not rfl rfl) ?_)
  all_goals (refine E.OW.pure rfl rfl rfl (E.PV.pick_t rfl rfl rfl) ?_)
  all_goals (refine E.OW.pure rfl rfl rfl (E.PV.assign rfl rfl) ?_)
  all_goals (
    refine E.OW.nil ?_
    refine E.then_n ?_
    refine E.CW.seq ?_
    refine E.CW.region ?_
    refine E.OW.buildSlice (Et := 3) (sz := 1) (cs := E.ints ([5, 6, 1, 2, 3, 4])) (ps := [(0, .const (.int .i64 5)), (1, .const (.int .i64 6)), (2, .const (.int .i64 1)), (3, .const (.int .i64 2)), (4, .const (.int .i64 3)), (5, .const (.int .i64 4))]) rfl rfl rfl rfl rfl rfl (by unfold maxLen; omega) (fun w => bsl31_6_0_1_2_3_4_5 _ _ _ _ _ _ w) (fun A1 => ?_); refine E.OW.chunk 0 (E.HP.row 3 1 A1 (List.length ([5, 6, 1, 2, 3, 4])) 6 (E.ints ([5, 6, 1, 2, 3, 4]))) rfl rfl ?_; refine E.OW.put 30 (.slice A1 (List.length ([5, 6, 1, 2, 3, 4])) 6) rfl rfl ?_
    (refine E.OW.call nm81 rfl rfl rfl rfl rfl rfl _ (fun w hw => goes_ok 5 4 4 _ _ [5, 6, 1, 2, 3, 4] w (by omega) ?_ (by decide) Rt.ex_4) ?_; (focus (exact hw.rdrow (i := 0) rfl)); rintro _ _ ⟨rfl, rfl⟩)
    refine E.OW.pure rfl rfl rfl (E.PV.move rfl rfl) ?_
    all_goals (refine E.OW.put 32 (.bool true) (v := .bool true) rfl rfl ?_)
    all_goals (refine E.OW.buildSlice (Et := 3) (sz := 1) (cs := E.ints ([5, 6, 7, 8, 3, 4])) (ps := [(0, .const (.int .i64 5)), (1, .const (.int .i64 6)), (2, .const (.int .i64 7)), (3, .const (.int .i64 8)), (4, .const (.int .i64 3)), (5, .const (.int .i64 4))]) rfl rfl rfl rfl rfl rfl (by unfold maxLen; omega) (fun w => bsl31_6_0_1_2_3_4_5 _ _ _ _ _ _ w) (fun A2 => ?_); refine E.OW.chunk 0 (E.HP.row 3 1 A2 (List.length ([5, 6, 7, 8, 3, 4])) 6 (E.ints ([5, 6, 7, 8, 3, 4]))) rfl rfl ?_; refine E.OW.put 33 (.slice A2 (List.length ([5, 6, 7, 8, 3, 4])) 6) rfl rfl ?_)
    all_goals ((refine E.OW.call nm81 rfl rfl rfl rfl rfl rfl _ (fun w hw => goes_ok 5 4 5 _ _ [5, 6, 7, 8, 3, 4] w (by omega) ?_ (by decide) Rt.ex_5) ?_; (focus (exact hw.rdrow (i := 0) rfl)); rintro _ _ ⟨rfl, rfl⟩))
    all_goals (refine E.OW.pure rfl rfl rfl (E.PV.pick_t rfl rfl rfl) ?_)
    all_goals (refine E.OW.pure rfl rfl rfl (E.PV.move rfl rfl) ?_)
    all_goals (refine E.OW.put 36 (.bool true) (v := .bool true) rfl rfl ?_)
    all_goals (refine E.OW.buildSlice (Et := 3) (sz := 1) (cs := E.ints ([5, 5, 5, 5, 6, 1, 2, 3, 4])) (ps := [(0, .const (.int .i64 5)), (1, .const (.int .i64 5)), (2, .const (.int .i64 5)), (3, .const (.int .i64 5)), (4, .const (.int .i64 6)), (5, .const (.int .i64 1)), (6, .const (.int .i64 2)), (7, .const (.int .i64 3)), (8, .const (.int .i64 4))]) rfl rfl rfl rfl rfl rfl (by unfold maxLen; omega) (fun w => bsl31_9_0_1_2_3_4_5_6_7_8 _ _ _ _ _ _ _ _ _ w) (fun A3 => ?_); refine E.OW.chunk 0 (E.HP.row 3 1 A3 (List.length ([5, 5, 5, 5, 6, 1, 2, 3, 4])) 9 (E.ints ([5, 5, 5, 5, 6, 1, 2, 3, 4]))) rfl rfl ?_; refine E.OW.put 37 (.slice A3 (List.length ([5, 5, 5, 5, 6, 1, 2, 3, 4])) 9) rfl rfl ?_)
    all_goals ((refine E.OW.call nm81 rfl rfl rfl rfl rfl rfl _ (fun w hw => goes_ok 5 4 0 _ _ [5, 5, 5, 5, 6, 1, 2, 3, 4] w (by omega) ?_ (by decide) Rt.ex_0) ?_; (focus (exact hw.rdrow (i := 0) rfl)); rintro _ _ ⟨rfl, rfl⟩))
    all_goals (refine E.OW.pure rfl rfl rfl (E.PV.pick_t rfl rfl rfl) ?_)
    all_goals (refine E.OW.pure rfl rfl rfl (E.PV.move rfl rfl) ?_)
    all_goals (refine E.OW.put 40 (.bool true) (v := .bool true) rfl rfl ?_)
    all_goals (refine E.OW.buildSlice (Et := 3) (sz := 1) (cs := E.ints ([4])) (ps := [(0, .const (.int .i64 4))]) rfl rfl rfl rfl rfl rfl (by unfold maxLen; omega) (fun w => bsl31_1_0 _ w) (fun A4 => ?_); refine E.OW.chunk 0 (E.HP.row 3 1 A4 (List.length ([4])) 1 (E.ints ([4]))) rfl rfl ?_; refine E.OW.put 41 (.slice A4 (List.length ([4])) 1) rfl rfl ?_)
    all_goals ((refine E.OW.call nm81 rfl rfl rfl rfl rfl rfl _ (fun w hw => goes_ok 4 4 0 _ _ [4] w (by omega) ?_ (by decide) Rt.ex_s) ?_; (focus (exact hw.rdrow (i := 0) rfl)); rintro _ _ ⟨rfl, rfl⟩))
    all_goals (refine E.OW.pure rfl rfl rfl (E.PV.pick_t rfl rfl rfl) ?_)
    all_goals (refine E.OW.pure rfl rfl rfl (E.PV.assign rfl rfl) ?_)
    all_goals (
      refine E.OW.nil ?_
      refine E.then_n ?_
      refine E.CW.seq ?_
      refine E.CW.region ?_
      refine E.OW.pure rfl rfl rfl (E.PV.move rfl rfl) ?_
      refine E.OW.pure rfl rfl rfl (E.PV.move rfl rfl) ?_
      all_goals (refine E.OW.put 45 (.bool true) (v := .bool true) rfl rfl ?_)
      all_goals (refine E.OW.pure rfl rfl rfl (E.PV.move rfl rfl) ?_)
      all_goals (refine E.OW.pure rfl rfl rfl (E.PV.pick_t rfl rfl rfl) ?_)
      all_goals (refine E.OW.pure rfl rfl rfl (E.PV.assign rfl rfl) ?_)
      all_goals (
        refine E.OW.nil ?_
        refine E.then_n ?_
        refine E.CW.ret ?_
        refine E.KR.one [] Try.results38 rfl rfl ?_
        exact ⟨by first | rfl | (simp; done), rfl⟩)))
end Go.Proofs.Ytflkbabhbnmajaa

/- The outright laws of the routes, as the walks need them. No program in sight. -/
set_option linter.unusedSimpArgs false
set_option linter.unusedVariables false
namespace Go.Proofs.Ytflkbabhbnmajaa
namespace Rt
open Cf
/-- the steps of a route. -/
theorem far_two (g : C) (t a b tick : Int) : (¬ (routeR g t a b tick).2 = 0 ∧ (routeR g t a b tick).1.length = 0) ∨ ((routeR g t a b tick).2 = 0 ∧ 1 ≤ (routeR g t a b tick).1.length ∧ Fl.distance g.a g.b a b = (Fl.dist g.a a b, 0) ∧ Fl.dist g.a a b ≤ ((routeR g t a b tick).1.length : Int) - 1 ∧ onLeg g t a b = true ∧ Ten g t ∧
    ∀ i, i + 1 < (routeR g t a b tick).1.length → (Fl.adjacent g.a g.b ((routeR g t a b tick).1.getD i 0) ((routeR g t a b tick).1.getD (i + 1) 0)).2 = 0 ∧ ((Fl.adjacent g.a g.b ((routeR g t a b tick).1.getD i 0) ((routeR g t a b tick).1.getD (i + 1) 0)).1 = true ∨ (routeR g t a b tick).1.getD (i + 1) 0 = (routeR g t a b tick).1.getD i 0)) := by
  by_cases h : (arrivalR g t a b tick).2 = 0
  · obtain ⟨hL, _⟩ := arv_zero h
    exact .inr ⟨by rw [route_err2]; exact h, route_pos h, (far_len h).1, (far_len h).2, far_leg h, ⟨hL.c, hL.p⟩, fun i hi => ⟨(far_steps h hi).1, (far_steps h hi).2.1⟩⟩
  · exact .inl ⟨by rw [route_err2]; exact h, by rw [route_nil h]; rfl⟩
theorem first_two {g : C} (t a b tick : Int) {n : Int} (hn : 0 ≤ n ∧ n ≤ 200) : (¬ (reachR g t a b tick n).2 = 0 ∧ (arrivalR g t a b tick).2 = (reachR g t a b tick n).2) ∨ ((reachR g t a b tick n).2 = 0 ∧ (arrivalR g t a b tick).2 = 130 ∧ decide (b ∈ (reachR g t a b tick n).1) = false) ∨
    ((reachR g t a b tick n).2 = 0 ∧ (arrivalR g t a b tick).2 = 0 ∧ decide (b ∈ (reachR g t a b tick n).1) = decide ((arrivalR g t a b tick).1 ≤ n) ∧ (0 < n ∨ (reachR g t a b tick n).1 = [a])) := by
  have he := (reach_err (g := g) (t := t) (a := a) (b := b) (tick := tick) (n := n) (by omega)).1
  by_cases h : legE g t a b tick = 0
  · rcases first_ok (n := n) (by omega) h with ⟨h1, h2⟩ | ⟨h1, h2⟩
    · exact .inr (.inl ⟨by omega, h1, decide_eq_false h2⟩)
    · refine .inr (.inr ⟨by omega, h1, decide_eq_decide.2 h2, ?_⟩)
      by_cases h0 : 0 < n
      · exact .inl h0
      · obtain rfl : n = 0 := by omega
        exact .inr (reach_zero h)
  · exact .inl ⟨by omega, by rw [arv_err h, he]⟩
theorem short_two (g : C) (t a b tick : Int) {l : List Int} (hl : l.length ≤ 1025) : (¬ (arrivalR g t a b tick).2 = 0 ∧ (routeR g t a b tick).2 = (arrivalR g t a b tick).2 ∧ (walkR g t a b tick l).1 = false ∧ (¬ (arrivalR g t a b tick).2 = 130 ∨ (walkR g t a b tick l).2 = 0)) ∨
    ((arrivalR g t a b tick).2 = 0 ∧ (routeR g t a b tick).2 = 0 ∧ (walkR g t a b tick l).2 = 0 ∧ walkR g t a b tick (routeR g t a b tick).1 = (true, 0) ∧ ((routeR g t a b tick).1.length : Int) = (arrivalR g t a b tick).1 + 1 ∧ (0 ≤ (arrivalR g t a b tick).1 ∧ (arrivalR g t a b tick).1 ≤ 1024) ∧
      (((arrivalR g t a b tick).1 = 0 ∧ (nextR g t a b tick).2 = 6 ∧ a = b) ∨ (¬ (arrivalR g t a b tick).1 = 0 ∧ (nextR g t a b tick).1 = (routeR g t a b tick).1.getD 1 0 ∧ (nextR g t a b tick).2 = 0)) ∧
      ((walkR g t a b tick l).1 = false ∨ (routeR g t a b tick).1.length ≤ l.length)) := by
  by_cases h : (arrivalR g t a b tick).2 = 0
  · refine .inr ⟨h, by rw [route_err2]; exact h, walk_e (.inl h) hl, walk_route h, route_len h, arv_small h, ?_, ?_⟩
    · rw [next_at h]
      by_cases h0 : (arrivalR g t a b tick).1 = 0
      · rw [if_pos h0]; exact .inl ⟨h0, rfl, (arv_zero_at h).1 h0⟩
      · rw [if_neg h0]; exact .inr ⟨h0, rfl, rfl⟩
    · cases e : (walkR g t a b tick l).1 with
      | false => exact .inl rfl
      | true => have := (walk_short e).2; have := route_len h; exact .inr (by omega)
  · refine .inl ⟨h, route_err2 g t a b tick, walk_none h, ?_⟩
    by_cases h1 : (arrivalR g t a b tick).2 = 130
    · exact .inr (walk_e (.inr h1) hl)
    · exact .inl h1
/-- the same place, or one step apart. -/
def nr (w p q : Int) : Bool := decide (p = q ∨ (p / w = q / w ∧ (p = q + 1 ∨ q = p + 1)) ∨ p = q + w ∨ q = p + w)
theorem mem_no {l : List Int} {n : Int} (h : ∀ j, j < l.length → ¬ l.getD j 0 = n) : decide (n ∈ l) = false := not_spot h
theorem mem_yes {l : List Int} {n : Int} {i : Nat} (hi : i < l.length) (h : l.getD i 0 = n) : decide (n ∈ l) = true := is_spot hi h
theorem reachR_small (g : C) (t a b tick n : Int) : (reachR g t a b tick n).1.length ≤ 64 := by
  by_cases h : legE g t a b tick = 0
  · exact Nat.le_trans (reachR_len g t a b tick n) (len_le (leg_of h).1.c)
  · unfold reachR; rw [if_neg h]; exact Nat.zero_le _
def anr (w p : Int) (l : List Int) (j : Nat) : Bool := (l.take j).any fun q => nr w q p
theorem anr_zero (w p : Int) (l : List Int) : anr w p l 0 = false := by unfold anr; rw [List.take_zero]; rfl
theorem anr_succ {w p : Int} {l : List Int} {j : Nat} (hj : j < l.length) : anr w p l (j + 1) = (anr w p l j || nr w (l.getD j 0) p) := by
  unfold anr
  rw [List.take_add_one, List.getElem?_eq_getElem hj, Option.toList_some, List.any_append]
  simp [List.getD, hj]
theorem spreads_two (g : C) (t a b tick : Int) {n : Int} (hn : 1 ≤ n ∧ n ≤ 100) (ht : tick ≤ 4611686018427387904) : (¬ (reachR g t a b tick (n - 1)).2 = 0 ∧ (reachR g t a b tick n).2 = (reachR g t a b tick (n - 1)).2 ∧ (reachR g t a b tick (n - 1)).1.length = 0 ∧ (reachR g t a b tick n).1.length = 0) ∨
    ((reachR g t a b tick (n - 1)).2 = 0 ∧ (reachR g t a b tick n).2 = 0 ∧ (1 ≤ g.a ∧ g.a ≤ 100) ∧ g.l.length ≤ 64 ∧ (∀ j, j < (reachR g t a b tick (n - 1)).1.length → 0 ≤ (reachR g t a b tick (n - 1)).1.getD j 0 ∧ (reachR g t a b tick (n - 1)).1.getD j 0 ≤ 1000) ∧
      ∀ k : Nat, k < g.l.length → (freeR g t a b (k : Int) (tick + n)).2 = 0 ∧ decide ((k : Int) ∈ (reachR g t a b tick n).1) = ((freeR g t a b (k : Int) (tick + n)).1 && anr g.a (k : Int) (reachR g t a b tick (n - 1)).1 (reachR g t a b tick (n - 1)).1.length)) := by
  have e1 := reach_err (g := g) (t := t) (a := a) (b := b) (tick := tick) (n := n - 1) (by omega)
  have e2 := reach_err (g := g) (t := t) (a := a) (b := b) (tick := tick) (n := n) (by omega)
  by_cases h : legE g t a b tick = 0
  · have hL := (leg_of h).1
    have hs := sides_of hL.c
    have hln := len_of hL.c
    have hr := (reach_of (g := g) (t := t) (a := a) (b := b) (tick := tick) (n := n - 1) (by rw [e1.1]; exact h)).2.2
    have hin : ∀ q, q ∈ (reachR g t a b tick (n - 1)).1 → 0 ≤ q ∧ q < g.l.length := fun q hq => by rw [hr] at hq; exact ⟨(pls_mem.1 hq).1, (pls_mem.1 hq).2.1⟩
    refine .inr ⟨by omega, by omega, ?_, len_le hL.c, fun j hj => ?_, fun k hk => ?_⟩
    · unfold sides at hs; omega
    · have h1 := hin _ (getD_mem hj)
      have := len_le hL.c
      omega
    · have hf : freeR g t a b (k : Int) (tick + n) = ((G g t a b).al (ph g (tick + n)) k, 0) := free_of (leg_err hL (by omega)) (by omega)
      rw [hf]
      refine ⟨rfl, ?_⟩
      show _ = ((G g t a b).al (ph g (tick + n)) k && _)
      rw [Bool.eq_iff_iff, decide_eq_true_eq, spreads_ok (by omega) h hk, Bool.and_eq_true, And.comm]
      refine and_congr_right fun _ => ?_
      unfold anr
      rw [List.take_length, List.any_eq_true]
      refine exists_congr fun q => and_congr_right fun hq => ?_
      have hq2 := hin q hq
      unfold nr
      rw [near_law hs (by omega) (by omega), decide_eq_true_eq]
  · refine .inl ⟨by omega, by omega, by rw [e1.2 h]; rfl, by rw [e2.2 h]; rfl⟩
theorem long_two (g : C) (t : Int) : (¬ (longestR g t).2 = 0 ∧ (longestR g t).1 = 0 ∧ (boundR g t).1 = 0 ∧ (boundR g t).2 = (longestR g t).2) ∨
    ((longestR g t).2 = 0 ∧ Ten g t ∧ soundR g = 0 ∧ (longestR g t).1 = most g t ∧ (0 ≤ most g t ∧ most g t ≤ 1024) ∧ legsR g t = (legs (team g t), 0) ∧ (boundR g t).2 = 0 ∧
      ((legs (team g t)).length : Int) = ((team g t).h.length : Int) * (team g t).p.length + ((team g t).p.length : Int) * (team g t).d.length + ((team g t).d.length : Int) * (team g t).h.length ∧ most g t * ((team g t).n3 + (team g t).h.length) < (boundR g t).1) := by
  by_cases h : (longestR g t).2 = 0
  · obtain ⟨hT, hs, hm, h0, hl, hb⟩ := long_ok h
    refine .inr ⟨h, hT, hs, hm, ⟨h0, (most_b hT).2⟩, hl, by rw [hb], legs_count _, ?_⟩
    rw [hb]; exact bound_more hT h0
  · obtain ⟨h1, h2⟩ := long_no h
    exact .inl ⟨h, h1, by rw [h2], by rw [h2]⟩
theorem vals_stepD {g : C} {t : Int} {i k : Nat} (hk : k < g.s.length) : vals g t i (k + 1) = vals g t i k ++ [(rowOf g t ((legs (team g t)).getD i (0, 0))).getD k 0] := by
  rw [vals_step hk, List.getD_eq_getElem?_getD (l := rowOf g t _), row_at hk]; rfl
theorem alone_two {g : C} {t : Int} (h : (onlyR g t).2 = 0) : Ten g t ∧ (onlyR g t).1 = only g t ∧ (∀ p tick, allowed (only g t) t p tick = allowed g t p tick) ∧ (∀ a b tick, routeR (only g t) t a b tick = routeR g t a b tick) ∧ tenantsR g = (tenants g.ts g.ts.length, 0) ∧ 1 ≤ (tenants g.ts g.ts.length).length := by
  obtain ⟨hT, e⟩ := onlyR_ten h
  exact ⟨hT, by rw [e], fun p tick => allowed_only hT, fun a b tick => route_only hT, tenants_ok hT.c, tenants_pos hT.c⟩
theorem alone_at {g : C} (h : check g = 0) {i : Nat} (hi : i < (tenants g.ts g.ts.length).length) : onlyR g ((tenants g.ts g.ts.length).getD i 0) = (only g ((tenants g.ts g.ts.length).getD i 0), 0) := by
  have hT := ten_of h hi
  exact onlyR_yes hT.c hT.p
end Rt
end Go.Proofs.Ytflkbabhbnmajaa

/- Closed facts on the program (printed by gen.py). -/
namespace Go.Proofs.Ytflkbabhbnmajaa
open Go Go.RowKit
set_option linter.unusedSimpArgs false
set_option linter.unusedVariables false
theorem nm38 : E.Nm Try.prog 38 := ⟨Try.f38, Try.func38, rfl, by kernel_rfl⟩
end Go.Proofs.Ytflkbabhbnmajaa

/- Walks (printed by gen.py). -/
namespace Go.Proofs.Ytflkbabhbnmajaa
open Go Go.RowKit
set_option linter.unusedSimpArgs false
set_option linter.unusedVariables false

set_option maxRecDepth 100000 in
theorem in4_ok (A : Option Addr) (c : Nat) (l : List Int) (n : Int) (w0 : World) (hX : E.Rd w0 (E.Old w0) A (E.ints l)) (hll : l.length ≤ 1000) :
    Calls Try.prog 51 #[.slice A l.length c, .int .i64 n] w0 (E.Post w0 (E.Old w0) fun v Hn => v = .bool (decide (n ∈ l)) ∧ Hn = []) := by
  refine E.calls_of (vs := [.slice A l.length c, .int .i64 n]) (H := []) Try.func51 Try.ntmps51 rfl rfl (E.HA.start w0) ?_
  refine E.CW.seq ?_
  refine E.CW.region ?_
  refine E.OW.pure rfl rfl rfl (E.PV.assign rfl rfl) ?_
  refine E.OW.nil ?_
  refine E.then_n ?_
  refine E.CW.seq ?_
  refine E.CW.seq ?_
  refine E.CW.region ?_
  refine E.OW.pure rfl rfl rfl (E.PV.move rfl rfl) ?_
  refine E.OW.pure rfl rfl rfl (E.PV.len Try.underlying31 rfl rfl) ?_
  refine E.OW.pure rfl rfl rfl (E.PV.move rfl rfl) ?_
  refine E.OW.nil ?_
  refine E.then_n ?_
  refine E.CW.block ?_
  refine E.CW.loopk [0, 1, 7] 0 rfl rfl (fun mm mods Hm => ∃ k : Nat, mm = l.length - k ∧ mods = [(8, .int .i64 k)] ∧ Hm = [] ∧ (k ≤ l.length ∧ ∀ j, j < k → ¬ l.getD j 0 = n)) (l.length) ?_ ?_
  · exact ⟨[(8, _)], (by repeat (first | exact E.cov_nil | refine ⟨rfl, ?_⟩)), 0, rfl, rfl, rfl, by omega, fun j hj => by omega⟩
  · rintro _ _ _ ⟨k, rfl, rfl, rfl, hk, hI⟩
    refine E.CW.seq ?_
    refine E.CW.region ?_
    refine E.OW.pure rfl rfl rfl (E.PV.lss rfl rfl rfl) ?_
    refine E.OW.nil ?_
    refine E.then_n ?_
    refine E.CW.seq ?_
    refine E.CW.cond rfl (fun hc => ?_) (fun hc => ?_)
    · simp only [E.b0, E.b1, E.b2, E.b3, E.b4, E.b5, E.b6, E.b7, E.b8, E.b9, E.b10, E.b11, E.b12, E.b13, E.b14, E.b15, E.b16, E.b17, E.b18, E.b19, E.b20, reduceCtorEq] at hc
      all_goals (
        refine E.CW.skip ?_
        refine E.then_n ?_
        refine E.CW.seq ?_
        refine E.CW.block ?_
        refine E.CW.seq ?_
        refine E.CW.region ?_
        refine E.OW.pure rfl rfl rfl (E.PV.move rfl rfl) ?_
        refine E.OW.pure rfl rfl rfl (E.PV.assign rfl rfl) ?_
        refine E.OW.nil ?_
        refine E.then_n ?_
        refine E.CW.seq ?_
        refine E.CW.region ?_
        refine E.OW.pure rfl rfl rfl (E.PV.move rfl rfl) ?_
        refine E.OW.pure rfl rfl rfl (E.PV.move rfl rfl) ?_
        refine E.OW.pure rfl rfl rfl (E.PV.indexAddr1 (E.rdc hX) Try.underlying31 in3 rfl rfl rfl rfl ?_ ?_) ?_; (focus (first | (simp; done) | (simp; omega))); (focus (omega))
        refine E.OW.pure rfl rfl rfl (E.PV.load_int (E.rdc hX) na3 rfl rfl ?_) ?_; (focus (omega))
        refine E.OW.pure rfl rfl rfl (E.PV.move rfl rfl) ?_
        refine E.OW.pure rfl rfl rfl (E.PV.eql rfl rfl rfl) ?_
        refine E.OW.nil ?_
        refine E.then_n ?_
        refine E.CW.cond rfl (fun hc => ?_) (fun hc => ?_)
        · simp only [E.b0, E.b1, E.b2, E.b3, E.b4, E.b5, E.b6, E.b7, E.b8, E.b9, E.b10, E.b11, E.b12, E.b13, E.b14, E.b15, E.b16, E.b17, E.b18, E.b19, E.b20, reduceCtorEq] at hc
          all_goals (
            refine E.CW.seq ?_
            refine E.CW.region ?_
            refine E.OW.pure rfl rfl rfl (E.PV.assign rfl rfl) ?_
            refine E.OW.nil ?_
            refine E.then_n ?_
            refine E.CW.ret ?_
            refine E.blk_ret ?_
            refine E.then_ret ?_
            refine E.then_ret ?_
            refine E.blk_ret ?_
            refine E.then_ret ?_
            refine E.KR.one [] Try.results51 rfl rfl ?_
            exact ⟨by rw [Rt.mem_yes (i := k) (by omega) (by assumption)], rfl⟩)
        · simp only [E.b0, E.b1, E.b2, E.b3, E.b4, E.b5, E.b6, E.b7, E.b8, E.b9, E.b10, E.b11, E.b12, E.b13, E.b14, E.b15, E.b16, E.b17, E.b18, E.b19, E.b20, reduceCtorEq] at hc
          all_goals (
            refine E.CW.skip ?_
            refine E.blk_n ?_
            refine E.then_n ?_
            refine E.CW.region ?_
            refine E.OW.pure rfl rfl rfl (E.PV.add_i64 rfl rfl rfl ?_) ?_; (focus (omega))
            refine E.OW.pure rfl rfl rfl (E.PV.move rfl rfl) ?_
            refine E.OW.nil ?_
            refine E.then_nf ?_
            refine ⟨_, [(8, _)], [], _, ?_, by repeat (first | exact E.cov_nil | refine ⟨rfl, ?_⟩), rfl, k + 1, rfl, rfl, rfl, by omega, Cf.next_all hI (by assumption)⟩
            omega))
    · simp only [E.b0, E.b1, E.b2, E.b3, E.b4, E.b5, E.b6, E.b7, E.b8, E.b9, E.b10, E.b11, E.b12, E.b13, E.b14, E.b15, E.b16, E.b17, E.b18, E.b19, E.b20, reduceCtorEq] at hc
      all_goals (
        refine E.CW.exit ?_
        refine E.then_x ?_
        refine E.then_x ?_
        refine E.blk_eq ?_
        refine E.then_n ?_
        refine E.CW.seq ?_
        refine E.CW.region ?_
        refine E.OW.pure rfl rfl rfl (E.PV.assign rfl rfl) ?_
        refine E.OW.nil ?_
        refine E.then_n ?_
        refine E.CW.ret ?_
        refine E.KR.one [] Try.results51 rfl rfl ?_
        exact ⟨by rw [Rt.mem_no fun j hj => hI j (by omega)], rfl⟩)

set_option maxRecDepth 100000 in
theorem near4_ok (a p q : Int) (w0 : World) (ha : 1 ≤ a ∧ a ≤ 100) (hp : 0 ≤ p ∧ p ≤ 1000) (hq : 0 ≤ q ∧ q ≤ 1000) :
    Calls Try.prog 53 #[.int .i64 a, .int .i64 p, .int .i64 q] w0 (E.Post w0 (E.Old w0) fun v Hn => v = .bool (Rt.nr a p q) ∧ Hn = []) := by
  refine E.calls_of (vs := [.int .i64 a, .int .i64 p, .int .i64 q]) (H := []) Try.func53 Try.ntmps53 rfl rfl (E.HA.start w0) ?_
  refine E.CW.seq ?_
  refine E.CW.region ?_
  refine E.OW.pure rfl rfl rfl (E.PV.assign rfl rfl) ?_
  refine E.OW.nil ?_
  refine E.then_n ?_
  refine E.CW.seq ?_
  refine E.CW.seq ?_
  refine E.CW.region ?_
  refine E.OW.pure rfl rfl rfl (E.PV.move rfl rfl) ?_
  refine E.OW.pure rfl rfl rfl (E.PV.lss rfl rfl rfl) ?_
  refine E.OW.nil ?_
  refine E.then_n ?_
  refine E.CW.cond rfl (fun hc => ?_) (fun hc => ?_)
  · simp only [E.b0, E.b1, E.b2, E.b3, E.b4, E.b5, E.b6, E.b7, E.b8, E.b9, E.b10, E.b11, E.b12, E.b13, E.b14, E.b15, E.b16, E.b17, E.b18, E.b19, E.b20, reduceCtorEq] at hc
    all_goals (exfalso; omega)
  · simp only [E.b0, E.b1, E.b2, E.b3, E.b4, E.b5, E.b6, E.b7, E.b8, E.b9, E.b10, E.b11, E.b12, E.b13, E.b14, E.b15, E.b16, E.b17, E.b18, E.b19, E.b20, reduceCtorEq] at hc
    all_goals (
      refine E.CW.skip ?_
      refine E.then_n ?_
      refine E.CW.seq ?_
      refine E.CW.draw mixed (by kernel_rfl) ?_
      refine E.QW.pure rfl rfl rfl (E.PV.move rfl rfl) ?_
      refine E.QW.pure rfl rfl rfl (E.PV.move rfl rfl) ?_
      refine E.QW.pure rfl rfl rfl (E.PV.eql rfl rfl rfl) ?_
      refine E.QW.pure rfl rfl rfl (E.PV.move rfl rfl) ?_
      all_goals (refine E.QW.split 12 rfl (fun hc => ?_) (fun hc => ?_) <;> (try simp only [E.b0, E.b1, E.b2, E.b3, E.b4, E.b5, E.b6, E.b7, E.b8, E.b9, E.b10, E.b11, E.b12, E.b13, E.b14, E.b15, E.b16, E.b17, E.b18, E.b19, E.b20, reduceCtorEq] at hc) <;> (try (exfalso; first | assumption | contradiction | omega)))
      all_goals (first | (refine E.QW.off rfl rfl rfl ?_) | (refine E.QW.pure rfl rfl rfl (E.PV.move rfl rfl) ?_))
      all_goals (first | (refine E.QW.off rfl rfl rfl ?_) | (refine E.QW.pure rfl rfl rfl (E.PV.move rfl rfl) ?_))
      all_goals (first | (refine E.QW.off rfl rfl rfl ?_) | (refine E.QW.pure rfl rfl rfl (E.PV.quo_i64 rfl rfl rfl ?_ ?_) ?_; (focus (omega)); (focus (omega))))
      all_goals (first | (refine E.QW.off rfl rfl rfl ?_) | (refine E.QW.pure rfl rfl rfl (E.PV.move rfl rfl) ?_))
      all_goals (first | (refine E.QW.off rfl rfl rfl ?_) | (refine E.QW.pure rfl rfl rfl (E.PV.move rfl rfl) ?_))
      all_goals (first | (refine E.QW.off rfl rfl rfl ?_) | (refine E.QW.pure rfl rfl rfl (E.PV.quo_i64 rfl rfl rfl ?_ ?_) ?_; (focus (omega)); (focus (omega))))
      all_goals (first | (refine E.QW.off rfl rfl rfl ?_) | (refine E.QW.pure rfl rfl rfl (E.PV.eql rfl rfl rfl) ?_))
      all_goals (first | (refine E.QW.off rfl rfl rfl ?_) | (refine E.QW.pure rfl rfl rfl (E.PV.move rfl rfl) ?_))
      all_goals (first | (refine E.QW.put 20 (.tuple #[]) (v := .tuple #[]) rfl rfl ?_) | (refine E.QW.split 20 rfl (fun hc => ?_) (fun hc => ?_) <;> (try simp only [E.b0, E.b1, E.b2, E.b3, E.b4, E.b5, E.b6, E.b7, E.b8, E.b9, E.b10, E.b11, E.b12, E.b13, E.b14, E.b15, E.b16, E.b17, E.b18, E.b19, E.b20, reduceCtorEq] at hc) <;> (try (exfalso; first | assumption | contradiction | omega))))
      all_goals (first | (refine E.QW.off rfl rfl rfl ?_) | (refine E.QW.pure rfl rfl rfl (E.PV.move rfl rfl) ?_))
      all_goals (first | (refine E.QW.off rfl rfl rfl ?_) | (refine E.QW.pure rfl rfl rfl (E.PV.move rfl rfl) ?_))
      all_goals (first | (refine E.QW.off rfl rfl rfl ?_) | (refine E.QW.pure rfl rfl rfl (E.PV.add_i64 rfl rfl rfl ?_) ?_; (focus (omega))))
      all_goals (first | (refine E.QW.off rfl rfl rfl ?_) | (refine E.QW.pure rfl rfl rfl (E.PV.eql rfl rfl rfl) ?_))
      all_goals (first | (refine E.QW.off rfl rfl rfl ?_) | (refine E.QW.pure rfl rfl rfl (E.PV.move rfl rfl) ?_))
      all_goals (first | (refine E.QW.put 25 (.tuple #[]) (v := .tuple #[]) rfl rfl ?_) | (refine E.QW.split 25 rfl (fun hc => ?_) (fun hc => ?_) <;> (try simp only [E.b0, E.b1, E.b2, E.b3, E.b4, E.b5, E.b6, E.b7, E.b8, E.b9, E.b10, E.b11, E.b12, E.b13, E.b14, E.b15, E.b16, E.b17, E.b18, E.b19, E.b20, reduceCtorEq] at hc) <;> (try (exfalso; first | assumption | contradiction | omega))))
      all_goals (first | (refine E.QW.off rfl rfl rfl ?_) | (refine E.QW.pure rfl rfl rfl (E.PV.move rfl rfl) ?_))
      all_goals (first | (refine E.QW.off rfl rfl rfl ?_) | (refine E.QW.pure rfl rfl rfl (E.PV.move rfl rfl) ?_))
      all_goals (first | (refine E.QW.off rfl rfl rfl ?_) | (refine E.QW.pure rfl rfl rfl (E.PV.add_i64 rfl rfl rfl ?_) ?_; (focus (omega))))
      all_goals (first | (refine E.QW.off rfl rfl rfl ?_) | (refine E.QW.pure rfl rfl rfl (E.PV.eql rfl rfl rfl) ?_))
      all_goals (first | (refine E.QW.off rfl rfl rfl ?_) | (first | (refine E.QW.pure rfl rfl rfl (E.PV.pick_t rfl rfl rfl) ?_) | (refine E.QW.pure rfl rfl rfl (E.PV.pick_f rfl rfl rfl) ?_)))
      all_goals (first | (refine E.QW.off rfl rfl rfl ?_) | (first | (refine E.QW.pure rfl rfl rfl (E.PV.pick_t rfl rfl rfl) ?_) | (refine E.QW.pure rfl rfl rfl (E.PV.pick_f rfl rfl rfl) ?_)))
      all_goals (first | (refine E.QW.pure rfl rfl rfl (E.PV.pick_t rfl rfl rfl) ?_) | (refine E.QW.pure rfl rfl rfl (E.PV.pick_f rfl rfl rfl) ?_))
      all_goals (refine E.QW.pure rfl rfl rfl (E.PV.move rfl rfl) ?_)
      all_goals (first | (refine E.QW.put 33 (.bool true) (v := .bool true) rfl rfl ?_) | (refine E.QW.put 33 (.bool false) (v := .bool false) rfl rfl ?_) | (refine E.QW.split 33 rfl (fun hc => ?_) (fun hc => ?_) <;> (try simp only [E.b0, E.b1, E.b2, E.b3, E.b4, E.b5, E.b6, E.b7, E.b8, E.b9, E.b10, E.b11, E.b12, E.b13, E.b14, E.b15, E.b16, E.b17, E.b18, E.b19, E.b20, reduceCtorEq] at hc) <;> (try (exfalso; first | assumption | contradiction | omega))))
      all_goals (first | (refine E.QW.off rfl rfl rfl ?_) | (refine E.QW.pure rfl rfl rfl (E.PV.move rfl rfl) ?_))
      all_goals (first | (refine E.QW.off rfl rfl rfl ?_) | (refine E.QW.pure rfl rfl rfl (E.PV.move rfl rfl) ?_))
      all_goals (first | (refine E.QW.off rfl rfl rfl ?_) | (refine E.QW.pure rfl rfl rfl (E.PV.move rfl rfl) ?_))
      all_goals (first | (refine E.QW.off rfl rfl rfl ?_) | (refine E.QW.pure rfl rfl rfl (E.PV.add_i64 rfl rfl rfl ?_) ?_; (focus (omega))))
      all_goals (first | (refine E.QW.off rfl rfl rfl ?_) | (refine E.QW.pure rfl rfl rfl (E.PV.eql rfl rfl rfl) ?_))
      all_goals (first | (refine E.QW.pure rfl rfl rfl (E.PV.pick_t rfl rfl rfl) ?_) | (refine E.QW.pure rfl rfl rfl (E.PV.pick_f rfl rfl rfl) ?_))
      all_goals (refine E.QW.pure rfl rfl rfl (E.PV.move rfl rfl) ?_)
      all_goals (first | (refine E.QW.put 40 (.bool true) (v := .bool true) rfl rfl ?_) | (refine E.QW.split 40 rfl (fun hc => ?_) (fun hc => ?_) <;> (try simp only [E.b0, E.b1, E.b2, E.b3, E.b4, E.b5, E.b6, E.b7, E.b8, E.b9, E.b10, E.b11, E.b12, E.b13, E.b14, E.b15, E.b16, E.b17, E.b18, E.b19, E.b20, reduceCtorEq] at hc) <;> (try (exfalso; first | assumption | contradiction | omega))))
      all_goals (first | (refine E.QW.off rfl rfl rfl ?_) | (refine E.QW.pure rfl rfl rfl (E.PV.move rfl rfl) ?_))
      all_goals (first | (refine E.QW.off rfl rfl rfl ?_) | (refine E.QW.pure rfl rfl rfl (E.PV.move rfl rfl) ?_))
      all_goals (first | (refine E.QW.off rfl rfl rfl ?_) | (refine E.QW.pure rfl rfl rfl (E.PV.move rfl rfl) ?_))
      all_goals (first | (refine E.QW.off rfl rfl rfl ?_) | (refine E.QW.pure rfl rfl rfl (E.PV.add_i64 rfl rfl rfl ?_) ?_; (focus (omega))))
      all_goals (first | (refine E.QW.off rfl rfl rfl ?_) | (refine E.QW.pure rfl rfl rfl (E.PV.eql rfl rfl rfl) ?_))
      all_goals (first | (refine E.QW.pure rfl rfl rfl (E.PV.pick_t rfl rfl rfl) ?_) | (refine E.QW.pure rfl rfl rfl (E.PV.pick_f rfl rfl rfl) ?_))
      all_goals (refine E.QW.pure rfl rfl rfl (E.PV.assign rfl rfl) ?_)
      all_goals (
        refine E.QW.nil ?_
        refine E.then_n ?_
        refine E.CW.ret ?_
        refine E.KR.one [] Try.results53 rfl rfl ?_
        exact ⟨by unfold Rt.nr; first | (refine congrArg Value.bool (decide_eq_true ?_).symm; omega) | (refine congrArg Value.bool (decide_eq_false ?_).symm; omega) | (refine congrArg Value.bool (decide_eq_decide.2 ?_); omega), rfl⟩))
end Go.Proofs.Ytflkbabhbnmajaa

/- Branches inside a region that meet again: the rest of the region is walked once. -/
set_option linter.unusedSimpArgs false
set_option linter.unusedVariables false
namespace Go.Proofs.Ytflkbabhbnmajaa
namespace E
open Go Go.RowKit
section
variable {P : Program} {n : Fr} {w0 : World} {F : Nat → Prop} {K : Kt} {l : Env} {H : List HP} {o : Oper}
theorem OW.cov {ops : Array Oper} {rest : List Oper} {l' : Env} (hc : Cov l l') (h : OW P n w0 F ops K rest l' H) : OW P n w0 F ops K rest l H := fun a w ha hw => h a w (ha.cov hc) hw
theorem QW.cov {ops : Array Oper} {rest : List Oper} {l' : Env} (hc : Cov l l') (h : QW P n w0 F ops K rest l' H) : QW P n w0 F ops K rest l H := fun a ha => h a (ha.cov hc)
theorem OW.join {ops : Array Oper} {rest : List Oper} (m : Nat) (ks : List Nat) {keep : Env} (_hk : pick l ks = some keep) (mods : Env) (h : OW P n w0 F ops K (rest.drop m) (mods ++ keep) H → OW P n w0 F ops K rest l H) (hr : OW P n w0 F ops K (rest.drop m) (mods ++ keep) H) : OW P n w0 F ops K rest l H := h hr
theorem QW.join {ops : Array Oper} {rest : List Oper} (m : Nat) (ks : List Nat) {keep : Env} (_hk : pick l ks = some keep) (mods : Env) (h : QW P n w0 F ops K (rest.drop m) (mods ++ keep) H → QW P n w0 F ops K rest l H) (hr : QW P n w0 F ops K (rest.drop m) (mods ++ keep) H) : QW P n w0 F ops K rest l H := h hr
end
end E
end Go.Proofs.Ytflkbabhbnmajaa

/- Closed facts on the program (printed by gen.py). -/
namespace Go.Proofs.Ytflkbabhbnmajaa
open Go Go.RowKit
set_option linter.unusedSimpArgs false
set_option linter.unusedVariables false
theorem nm49 : E.Nm Try.prog 49 := ⟨Try.f49, Try.func49, rfl, by kernel_rfl⟩
end Go.Proofs.Ytflkbabhbnmajaa

/- Closed facts on the program (printed by gen.py). -/
namespace Go.Proofs.Ytflkbabhbnmajaa
open Go Go.RowKit
set_option linter.unusedSimpArgs false
set_option linter.unusedVariables false
theorem nm51 : E.Nm Try.prog 51 := ⟨Try.f51, Try.func51, rfl, by kernel_rfl⟩
end Go.Proofs.Ytflkbabhbnmajaa

/- Closed facts on the program (printed by gen.py). -/
namespace Go.Proofs.Ytflkbabhbnmajaa
open Go Go.RowKit
set_option linter.unusedSimpArgs false
set_option linter.unusedVariables false
theorem nm52 : E.Nm Try.prog 52 := ⟨Try.f52, Try.func52, rfl, by kernel_rfl⟩
end Go.Proofs.Ytflkbabhbnmajaa

/- Closed facts on the program (printed by gen.py). -/
namespace Go.Proofs.Ytflkbabhbnmajaa
open Go Go.RowKit
set_option linter.unusedSimpArgs false
set_option linter.unusedVariables false
theorem nm53 : E.Nm Try.prog 53 := ⟨Try.f53, Try.func53, rfl, by kernel_rfl⟩
end Go.Proofs.Ytflkbabhbnmajaa

/- Closed facts on the program (printed by gen.py). -/
namespace Go.Proofs.Ytflkbabhbnmajaa
open Go Go.RowKit
set_option linter.unusedSimpArgs false
set_option linter.unusedVariables false
theorem nm54 : E.Nm Try.prog 54 := ⟨Try.f54, Try.func54, rfl, by kernel_rfl⟩
end Go.Proofs.Ytflkbabhbnmajaa

/- Walks (printed by gen.py). -/
namespace Go.Proofs.Ytflkbabhbnmajaa
open Go Go.RowKit
set_option linter.unusedSimpArgs false
set_option linter.unusedVariables false

set_option maxRecDepth 100000 in
theorem RouteAlone_ok (g : E.Cfg) (t a b p tick : Int) (w0 : World) (hg : g.rd w0 (E.Old w0)) (hgf : g.q.fit) (ht : 0 ≤ tick ∧ tick < 18446744073709551616) :
    Calls Try.prog 18 #[g.v, .int .i64 t, .agg #[.int .i64 a, .int .i64 b], .int .i64 p, .int .u64 tick] w0 (E.Post w0 (E.Old w0) fun v Hn => v = .bool true ∧ Hn = []) := by
  obtain ⟨hX1, hX2, hX3, hX4⟩ := id hg
  have hgl := E.Cfg.fit_len hgf
  have hrl := Rt.routeR_len g.q t a b tick
  have htn := E.Cfg.ts_len g
  refine E.calls_of (vs := [g.v, .int .i64 t, .agg #[.int .i64 a, .int .i64 b], .int .i64 p, .int .u64 tick]) (H := []) Try.func18 Try.ntmps18 rfl rfl (E.HA.start w0) ?_
  refine E.CW.seq ?_
  refine E.CW.region ?_
  refine E.OW.box rfl rfl rfl rfl rfl rfl (fun B1 => ?_)
  refine E.OW.box rfl rfl rfl rfl rfl rfl (fun B2 => ?_)
  refine E.OW.pure rfl rfl rfl (E.PV.assign rfl rfl) ?_
  refine E.OW.nil ?_
  refine E.then_n ?_
  refine E.CW.seq ?_
  refine E.CW.region ?_
  (refine E.OW.call nm38 rfl rfl rfl rfl rfl rfl _ (fun w hw => alive4_ok w) ?_; rintro _ _ ⟨rfl, rfl⟩)
  refine E.OW.pure rfl rfl rfl (E.PV.assign rfl rfl) ?_
  refine E.OW.nil ?_
  refine E.then_n ?_
  refine E.CW.seq ?_
  refine E.CW.seq ?_
  refine E.CW.region ?_
  refine E.OW.pure rfl rfl rfl (E.PV.loads (i := 1) is28 rfl rfl rfl rfl) ?_
  (refine E.OW.call nm19 rfl rfl rfl rfl rfl rfl _ (fun w hw => Gt_ok _ w ?_ ?_) ?_; (focus (refine hw.rdC ?_; assumption)); (focus (assumption)); rintro _ _ ⟨bG, rfl, rfl⟩)
  refine E.OW.pure rfl rfl rfl (E.PV.move rfl rfl) ?_
  all_goals (refine E.OW.split 32 rfl (fun hc => ?_) (fun hc => ?_) <;> (try simp only [E.b0, E.b1, E.b2, E.b3, E.b4, E.b5, E.b6, E.b7, E.b8, E.b9, E.b10, E.b11, E.b12, E.b13, E.b14, E.b15, E.b16, E.b17, E.b18, E.b19, E.b20, reduceCtorEq] at hc) <;> (try (exfalso; first | assumption | contradiction | omega)))
  all_goals (first | (refine E.OW.off rfl rfl rfl ?_) | (refine E.OW.pure rfl rfl rfl (E.PV.move rfl rfl) ?_))
  all_goals (first | (refine E.OW.off rfl rfl rfl ?_) | (refine E.OW.pure rfl rfl rfl (E.PV.not rfl rfl) ?_))
  all_goals (first | (refine E.OW.pure rfl rfl rfl (E.PV.pick_t rfl rfl rfl) ?_) | (refine E.OW.pure rfl rfl rfl (E.PV.pick_f rfl rfl rfl) ?_))
  all_goals (
    refine E.OW.nil ?_
    refine E.then_n ?_
    refine E.CW.cond rfl (fun hc => ?_) (fun hc => ?_)
    · first | ((cases hc; done)) | (simp only [E.b0, E.b1, E.b2, E.b3, E.b4, E.b5, E.b6, E.b7, E.b8, E.b9, E.b10, E.b11, E.b12, E.b13, E.b14, E.b15, E.b16, E.b17, E.b18, E.b19, E.b20, reduceCtorEq] at hc)
      all_goals (
        refine E.CW.seq ?_
        refine E.CW.region ?_
        refine E.OW.pure rfl rfl rfl (E.PV.move rfl rfl) ?_
        refine E.OW.pure rfl rfl rfl (E.PV.assign rfl rfl) ?_
        refine E.OW.nil ?_
        refine E.then_n ?_
        refine E.CW.ret ?_
        refine E.then_ret ?_
        refine E.KR.one [] Try.results18 rfl rfl ?_
        exact ⟨by first | rfl | (refine congrArg Value.bool (decide_eq_true ?_); omega) | (simp_all; done), rfl⟩)
    · first | ((cases hc; done)) | (simp only [E.b0, E.b1, E.b2, E.b3, E.b4, E.b5, E.b6, E.b7, E.b8, E.b9, E.b10, E.b11, E.b12, E.b13, E.b14, E.b15, E.b16, E.b17, E.b18, E.b19, E.b20, reduceCtorEq] at hc)
      all_goals (
        refine E.CW.skip ?_
        refine E.then_n ?_
        refine E.CW.seq ?_
        refine E.CW.region ?_
        refine E.OW.pure rfl rfl rfl (E.PV.loads (i := 1) is28 rfl rfl rfl rfl) ?_
        refine E.OW.pure rfl rfl rfl (E.PV.move rfl rfl) ?_
        (refine E.OW.call nm54 rfl rfl rfl rfl rfl rfl _ (fun w hw => On_ok g t w ?_ ?_) ?_; (focus (refine hw.rdC ?_; assumption)); (focus (assumption)); rintro _ _ ⟨gO, rfl, rfl, hgO⟩)
        refine E.OW.pure rfl rfl rfl (E.PV.move rfl rfl) ?_
        refine E.OW.pure rfl rfl rfl (E.PV.extract rfl rfl rfl) ?_
        refine E.OW.pure rfl rfl rfl (E.PV.extract rfl rfl rfl) ?_
        refine E.OW.alloc (in28.zr) rfl rfl rfl rfl rfl (fun B3 => ?_)
        refine E.OW.store (i := 0) in28.size rfl rfl rfl rfl rfl rfl rfl rfl rfl ?_
        refine E.OW.pure rfl rfl rfl (E.PV.assign rfl rfl) ?_
        refine E.OW.nil ?_
        refine E.then_n ?_
        refine E.CW.seq ?_
        refine E.CW.seq ?_
        refine E.CW.region ?_
        refine E.OW.pure rfl rfl rfl (E.PV.move rfl rfl) ?_
        refine E.OW.pure rfl rfl rfl (E.PV.neq rfl rfl rfl) ?_
        refine E.OW.nil ?_
        refine E.then_n ?_
        refine E.CW.cond rfl (fun hc => ?_) (fun hc => ?_)
        · simp only [E.b0, E.b1, E.b2, E.b3, E.b4, E.b5, E.b6, E.b7, E.b8, E.b9, E.b10, E.b11, E.b12, E.b13, E.b14, E.b15, E.b16, E.b17, E.b18, E.b19, E.b20, reduceCtorEq] at hc
          all_goals (
            refine E.CW.seq ?_
            refine E.CW.region ?_
            refine E.OW.pure rfl rfl rfl (E.PV.move rfl rfl) ?_
            refine E.OW.pure rfl rfl rfl (E.PV.assign rfl rfl) ?_
            refine E.OW.nil ?_
            refine E.then_n ?_
            refine E.CW.ret ?_
            refine E.then_ret ?_
            refine E.KR.one [] Try.results18 rfl rfl ?_
            exact ⟨by first | rfl | (refine congrArg Value.bool (decide_eq_true ?_); omega) | (simp_all; done), rfl⟩)
        · simp only [E.b0, E.b1, E.b2, E.b3, E.b4, E.b5, E.b6, E.b7, E.b8, E.b9, E.b10, E.b11, E.b12, E.b13, E.b14, E.b15, E.b16, E.b17, E.b18, E.b19, E.b20, reduceCtorEq] at hc
          all_goals (
            refine E.CW.skip ?_
            refine E.then_n ?_
            refine E.CW.seq ?_
            obtain ⟨hT, ho1, ho2, ho3, ho4, ho5⟩ := Rt.alone_two (g := g.q) (t := t) (by assumption)
            have hOq : gO.q = Cf.only g.q t := hgO.trans ho1
            have hOf : gO.q.fit := by rw [hgO]; exact Cf.onlyR_fit hgf
            have ht3 := Cf.teams_len (Cf.check_zero hT.c).2.2.1
            have htl := Cf.tenants_len g.q.ts g.q.ts.length
            refine E.CW.region ?_
            refine E.OW.pure rfl rfl rfl (E.PV.loads (i := 3) is28 rfl rfl rfl rfl) ?_
            refine E.OW.pure rfl rfl rfl (E.PV.move rfl rfl) ?_
            refine E.OW.pure rfl rfl rfl (E.PV.move rfl rfl) ?_
            refine E.OW.pure rfl rfl rfl (E.PV.move rfl rfl) ?_
            (refine E.OW.call nm31 rfl rfl rfl rfl rfl rfl _ (fun w hw => Ad_ok g t p tick w ?_ ?_ (by omega)) ?_; (focus (refine hw.rdC ?_; assumption)); (focus (assumption)); rintro _ _ ⟨rfl, rfl⟩)
            refine E.OW.pure rfl rfl rfl (E.PV.move rfl rfl) ?_
            refine E.OW.pure rfl rfl rfl (E.PV.extract rfl rfl rfl) ?_
            refine E.OW.pure rfl rfl rfl (E.PV.extract rfl rfl rfl) ?_
            refine E.OW.pure rfl rfl rfl (E.PV.assign rfl rfl) ?_
            refine E.OW.pure rfl rfl rfl (E.PV.assign rfl rfl) ?_
            refine E.OW.nil ?_
            refine E.then_n ?_
            refine E.CW.seq ?_
            refine E.CW.region ?_
            refine E.OW.pure rfl rfl rfl (E.PV.loads (i := 0) is28 rfl rfl rfl rfl) ?_
            refine E.OW.pure rfl rfl rfl (E.PV.move rfl rfl) ?_
            refine E.OW.pure rfl rfl rfl (E.PV.move rfl rfl) ?_
            refine E.OW.pure rfl rfl rfl (E.PV.move rfl rfl) ?_
            (refine E.OW.call nm31 rfl rfl rfl rfl rfl rfl _ (fun w hw => Ad_ok gO t p tick w ?_ hOf ht) ?_; (focus (exact hw.rdcfg (i := 1) rfl)); rintro _ _ ⟨rfl, rfl⟩)
            refine E.OW.pure rfl rfl rfl (E.PV.move rfl rfl) ?_
            refine E.OW.pure rfl rfl rfl (E.PV.extract rfl rfl rfl) ?_
            refine E.OW.pure rfl rfl rfl (E.PV.extract rfl rfl rfl) ?_
            refine E.OW.pure rfl rfl rfl (E.PV.assign rfl rfl) ?_
            refine E.OW.pure rfl rfl rfl (E.PV.assign rfl rfl) ?_
            refine E.OW.nil ?_
            refine E.then_n ?_
            refine E.CW.seq ?_
            refine E.CW.put 16 (.bool (Rt.allowed g.q t p tick).1) rfl (by rw [hOq, ho2]; rfl) ?_
            refine E.CW.put 17 (.int .i64 (Rt.allowed g.q t p tick).2) rfl (by rw [hOq, ho2]; rfl) ?_
            refine E.CW.region ?_
            refine E.OW.pure rfl rfl rfl (E.PV.loads (i := 3) is28 rfl rfl rfl rfl) ?_
            refine E.OW.pure rfl rfl rfl (E.PV.move rfl rfl) ?_
            refine E.OW.pure rfl rfl rfl (E.PV.loads (i := 2) is30 rfl rfl rfl rfl) ?_
            refine E.OW.pure rfl rfl rfl (E.PV.move rfl rfl) ?_
            (refine E.OW.call nm40 rfl rfl rfl rfl rfl rfl _ (fun w hw => Ro_ok g t a b tick w ?_ ?_ ?_) ?_; (focus (refine hw.rdC ?_; assumption)); (focus (assumption)); (focus (assumption)); rintro _ _ ⟨AR0, cR0, rfl, rfl⟩)
            refine E.OW.pure rfl rfl rfl (E.PV.move rfl rfl) ?_
            refine E.OW.pure rfl rfl rfl (E.PV.extract rfl rfl rfl) ?_
            refine E.OW.pure rfl rfl rfl (E.PV.extract rfl rfl rfl) ?_
            refine E.OW.pure rfl rfl rfl (E.PV.assign rfl rfl) ?_
            refine E.OW.pure rfl rfl rfl (E.PV.assign rfl rfl) ?_
            refine E.OW.nil ?_
            refine E.then_n ?_
            refine E.CW.seq ?_
            refine E.CW.region ?_
            refine E.OW.pure rfl rfl rfl (E.PV.loads (i := 1) is28 rfl rfl rfl rfl) ?_
            refine E.OW.pure rfl rfl rfl (E.PV.move rfl rfl) ?_
            refine E.OW.pure rfl rfl rfl (E.PV.loads (i := 3) is30 rfl rfl rfl rfl) ?_
            refine E.OW.pure rfl rfl rfl (E.PV.move rfl rfl) ?_
            (refine E.OW.call nm40 rfl rfl rfl rfl rfl rfl _ (fun w hw => Ro_ok gO t a b tick w ?_ hOf ht) ?_; (focus (exact hw.rdcfg (i := 2) rfl)); rintro _ _ ⟨AR1, cR1, rfl, rfl⟩)
            refine E.OW.pure rfl rfl rfl (E.PV.move rfl rfl) ?_
            refine E.OW.pure rfl rfl rfl (E.PV.extract rfl rfl rfl) ?_
            refine E.OW.pure rfl rfl rfl (E.PV.extract rfl rfl rfl) ?_
            refine E.OW.pure rfl rfl rfl (E.PV.assign rfl rfl) ?_
            refine E.OW.pure rfl rfl rfl (E.PV.assign rfl rfl) ?_
            refine E.OW.nil ?_
            refine E.then_n ?_
            refine E.CW.seq ?_
            refine E.CW.seq ?_
            refine E.CW.put 20 (.slice AR1 (Rt.routeR g.q t a b tick).1.length cR1) rfl (by rw [hOq, ho3]; rfl) ?_
            refine E.CW.put 21 (.int .i64 (Rt.routeR g.q t a b tick).2) rfl (by rw [hOq, ho3]; rfl) ?_
            refine E.CW.chunk 0 (E.HP.row 3 1 AR1 (Rt.routeR g.q t a b tick).1.length cR1 (E.ints (Rt.routeR g.q t a b tick).1)) rfl (by rw [hOq, ho3]) ?_
            refine E.CW.region ?_
            refine E.OW.pure rfl rfl rfl (E.PV.move rfl rfl) ?_
            refine E.OW.pure rfl rfl rfl (E.PV.move rfl rfl) ?_
            refine E.OW.pure rfl rfl rfl (E.PV.bne Try.underlying4 rfl rfl rfl) ?_
            refine E.OW.pure rfl rfl rfl (E.PV.move rfl rfl) ?_
            all_goals (refine E.OW.put 81 (.bool false) rfl (congrArg Value.bool ?_) ?_; (focus ((simp only [E.b0, E.b1, E.b2, E.b3, E.b4, E.b5, E.b6, E.b7, E.b8, E.b9, E.b10, E.b11, E.b12, E.b13, E.b14, E.b15, E.b16, E.b17, E.b18, E.b19, E.b20]; done))))
            all_goals (refine E.OW.pure rfl rfl rfl (E.PV.move rfl rfl) ?_)
            all_goals (refine E.OW.pure rfl rfl rfl (E.PV.move rfl rfl) ?_)
            all_goals (refine E.OW.pure rfl rfl rfl (E.PV.neq rfl rfl rfl) ?_)
            all_goals (refine E.OW.pure rfl rfl rfl (E.PV.pick_f rfl rfl rfl) ?_)
            all_goals (refine E.OW.pure rfl rfl rfl (E.PV.move rfl rfl) ?_)
            all_goals (refine E.OW.put 86 (.bool false) rfl (congrArg Value.bool ?_) ?_; (focus ((simp only [E.b0, E.b1, E.b2, E.b3, E.b4, E.b5, E.b6, E.b7, E.b8, E.b9, E.b10, E.b11, E.b12, E.b13, E.b14, E.b15, E.b16, E.b17, E.b18, E.b19, E.b20]; done))))
            all_goals (refine E.OW.pure rfl rfl rfl (E.PV.move rfl rfl) ?_)
            all_goals (refine E.OW.pure rfl rfl rfl (E.PV.move rfl rfl) ?_)
            all_goals ((refine E.OW.call nm22 rfl rfl rfl rfl rfl rfl _ (fun w hw => rSameInts_ok _ _ ((Rt.routeR g.q t a b tick).1) _ _ ((Rt.routeR g.q t a b tick).1) w ?_ ?_ ?_) ?_; (focus (omega)); (focus (exact hw.rdrow (i := 1) rfl)); (focus (exact hw.rdrow (i := 0) rfl)); rintro _ _ ⟨rfl, rfl⟩))
            all_goals (refine E.OW.pure rfl rfl rfl (E.PV.not rfl rfl) ?_)
            all_goals (refine E.OW.pure rfl rfl rfl (E.PV.pick_f rfl rfl rfl) ?_)
            all_goals (refine E.OW.pure rfl rfl rfl (E.PV.move rfl rfl) ?_)
            all_goals (refine E.OW.put 92 (.bool false) rfl (congrArg Value.bool ?_) ?_; (focus ((simp only [E.b0, E.b1, E.b2, E.b3, E.b4, E.b5, E.b6, E.b7, E.b8, E.b9, E.b10, E.b11, E.b12, E.b13, E.b14, E.b15, E.b16, E.b17, E.b18, E.b19, E.b20]; done))))
            all_goals (refine E.OW.pure rfl rfl rfl (E.PV.move rfl rfl) ?_)
            all_goals (refine E.OW.pure rfl rfl rfl (E.PV.move rfl rfl) ?_)
            all_goals (refine E.OW.pure rfl rfl rfl (E.PV.neq rfl rfl rfl) ?_)
            all_goals (refine E.OW.pure rfl rfl rfl (E.PV.pick_f rfl rfl rfl) ?_)
            all_goals (
              refine E.OW.nil ?_
              refine E.then_n ?_
              refine E.CW.cond rfl (fun hc => ?_) (fun hc => ?_)
              · simp only [E.b0, E.b1, E.b2, E.b3, E.b4, E.b5, E.b6, E.b7, E.b8, E.b9, E.b10, E.b11, E.b12, E.b13, E.b14, E.b15, E.b16, E.b17, E.b18, E.b19, E.b20, reduceCtorEq] at hc
                all_goals (exfalso; contradiction)
              · simp only [E.b0, E.b1, E.b2, E.b3, E.b4, E.b5, E.b6, E.b7, E.b8, E.b9, E.b10, E.b11, E.b12, E.b13, E.b14, E.b15, E.b16, E.b17, E.b18, E.b19, E.b20, reduceCtorEq] at hc
                all_goals (
                  refine E.CW.skip ?_
                  refine E.then_n ?_
                  refine E.CW.seq ?_
                  refine E.CW.region ?_
                  refine E.OW.pure rfl rfl rfl (E.PV.loads (i := 5) is28 rfl rfl rfl rfl) ?_
                  (refine E.OW.call nm55 rfl rfl rfl rfl rfl rfl _ (fun w hw => Tt_ok g w ?_ ?_) ?_; (focus (refine hw.rdC ?_; assumption)); (focus (assumption)); rintro _ _ ⟨AY, cY, rfl, rfl⟩)
                  refine E.OW.pure rfl rfl rfl (E.PV.move rfl rfl) ?_
                  refine E.OW.pure rfl rfl rfl (E.PV.extract rfl rfl rfl) ?_
                  refine E.OW.pure rfl rfl rfl (E.PV.extract rfl rfl rfl) ?_
                  refine E.OW.pure rfl rfl rfl (E.PV.assign rfl rfl) ?_
                  refine E.OW.pure rfl rfl rfl (E.PV.assign rfl rfl) ?_
                  refine E.OW.nil ?_
                  refine E.then_n ?_
                  refine E.CW.seq ?_
                  refine E.CW.put 22 (.slice AY (Cf.tenants g.q.ts g.q.ts.length).length cY) rfl (by rw [ho4]; rfl) ?_
                  refine E.CW.put 23 (.int .i64 0) rfl (by rw [ho4]; rfl) ?_
                  refine E.CW.chunk 0 (E.HP.row 3 1 AY (Cf.tenants g.q.ts g.q.ts.length).length cY (E.ints (Cf.tenants g.q.ts g.q.ts.length))) rfl (by rw [ho4]) ?_
                  refine E.CW.region ?_
                  refine E.OW.pure rfl rfl rfl (E.PV.assign rfl rfl) ?_
                  refine E.OW.nil ?_
                  refine E.then_n ?_
                  refine E.CW.seq ?_
                  refine E.CW.seq ?_
                  refine E.CW.region ?_
                  refine E.OW.pure rfl rfl rfl (E.PV.move rfl rfl) ?_
                  refine E.OW.pure rfl rfl rfl (E.PV.len Try.underlying31 rfl rfl) ?_
                  refine E.OW.pure rfl rfl rfl (E.PV.move rfl rfl) ?_
                  refine E.OW.nil ?_
                  refine E.then_n ?_
                  refine E.CW.block ?_
                  refine E.CW.loopk [5, 11, 22, 23, 102, 103] 0 rfl rfl (fun mm mods Hm => ∃ i : Nat, mm = (Cf.tenants g.q.ts g.q.ts.length).length - i ∧ mods = [(104, .int .i64 i), (24, .bool (Rt.soundTo g.q i))] ∧ Hm = [] ∧ i ≤ (Cf.tenants g.q.ts g.q.ts.length).length) ((Cf.tenants g.q.ts g.q.ts.length).length) ?_ ?_
                  · exact ⟨[(104, _), (24, _)], (by repeat (first | exact E.cov_nil | refine ⟨rfl, ?_⟩)), 0, rfl, (by rw [Rt.soundTo_zero]; rfl), rfl, by omega⟩
                  · rintro _ _ _ ⟨i, rfl, rfl, rfl, hi⟩
                    refine E.CW.seq ?_
                    refine E.CW.region ?_
                    refine E.OW.pure rfl rfl rfl (E.PV.lss rfl rfl rfl) ?_
                    refine E.OW.nil ?_
                    refine E.then_n ?_
                    refine E.CW.seq ?_
                    refine E.CW.cond rfl (fun hc => ?_) (fun hc => ?_)
                    · simp only [E.b0, E.b1, E.b2, E.b3, E.b4, E.b5, E.b6, E.b7, E.b8, E.b9, E.b10, E.b11, E.b12, E.b13, E.b14, E.b15, E.b16, E.b17, E.b18, E.b19, E.b20, reduceCtorEq] at hc
                      all_goals (
                        refine E.CW.skip ?_
                        refine E.then_n ?_
                        refine E.CW.seq ?_
                        refine E.CW.block ?_
                        refine E.CW.seq ?_
                        refine E.CW.region ?_
                        refine E.OW.pure rfl rfl rfl (E.PV.indexAddr1 (E.rdr (i := 0) rfl) Try.underlying31 in3 rfl rfl rfl rfl ?_ ?_) ?_; (focus (first | (simp; done) | (simp; omega))); (focus (omega))
                        refine E.OW.pure rfl rfl rfl (E.PV.load_int (E.rdr (i := 0) rfl) na3 rfl rfl ?_) ?_; (focus (omega))
                        refine E.OW.pure rfl rfl rfl (E.PV.assign rfl rfl) ?_
                        refine E.OW.nil ?_
                        refine E.then_n ?_
                        refine E.CW.seq ?_
                        refine E.CW.region ?_
                        refine E.OW.pure rfl rfl rfl (E.PV.loads (i := 6) is28 rfl rfl rfl rfl) ?_
                        refine E.OW.pure rfl rfl rfl (E.PV.move rfl rfl) ?_
                        (refine E.OW.call nm54 rfl rfl rfl rfl rfl rfl _ (fun w hw => On_ok g ((Cf.tenants g.q.ts g.q.ts.length).getD i 0) w ?_ ?_) ?_; (focus (refine hw.rdC ?_; assumption)); (focus (assumption)); rintro _ _ ⟨gU, rfl, rfl, hgU⟩)
                        refine E.OW.pure rfl rfl rfl (E.PV.move rfl rfl) ?_
                        refine E.OW.pure rfl rfl rfl (E.PV.extract rfl rfl rfl) ?_
                        refine E.OW.pure rfl rfl rfl (E.PV.extract rfl rfl rfl) ?_
                        refine E.OW.alloc (in28.zr) rfl rfl rfl rfl rfl (fun B4 => ?_)
                        refine E.OW.store (i := 0) in28.size rfl rfl rfl rfl rfl rfl rfl rfl rfl ?_
                        refine E.OW.pure rfl rfl rfl (E.PV.assign rfl rfl) ?_
                        refine E.OW.nil ?_
                        refine E.then_n ?_
                        have hat := Rt.alone_at (g := g.q) hT.c (i := i) (by omega)
                        have hUq : gU.q = Cf.only g.q ((Cf.tenants g.q.ts g.q.ts.length).getD i 0) := hgU.trans (congrArg Prod.fst hat)
                        have hUf : gU.q.fit := by rw [hgU]; exact Cf.onlyR_fit hgf
                        have hss := Rt.soundTo_succ (g := g.q) hT.c (i := i) (by omega)
                        rw [← hUq] at hss
                        refine E.CW.put 28 (.int .i64 0) rfl (congrArg (fun x : Cf.C × Int => Value.int .i64 x.2) hat) ?_
                        refine E.CW.region ?_
                        refine E.OW.pure rfl rfl rfl (E.PV.move rfl rfl) ?_
                        refine E.OW.pure rfl rfl rfl (E.PV.move rfl rfl) ?_
                        refine E.OW.join 3 [5, 11, 22, 23, 27, 102, 103, 104] rfl [(118, .bool (Rt.soundTo g.q i))] (fun hm => ?_) ?_
                        · skip
                          all_goals (refine E.OW.split 115 rfl (fun hc => ?_) (fun hc => ?_) <;> (try simp only [E.b0, E.b1, E.b2, E.b3, E.b4, E.b5, E.b6, E.b7, E.b8, E.b9, E.b10, E.b11, E.b12, E.b13, E.b14, E.b15, E.b16, E.b17, E.b18, E.b19, E.b20, reduceCtorEq] at hc) <;> (try (exfalso; first | assumption | contradiction | omega)))
                          all_goals (first | (refine E.OW.off rfl rfl rfl ?_) | (refine E.OW.pure rfl rfl rfl (E.PV.move rfl rfl) ?_))
                          all_goals (first | (refine E.OW.off rfl rfl rfl ?_) | (refine E.OW.pure rfl rfl rfl (E.PV.eql rfl rfl rfl) ?_))
                          all_goals (first | (refine E.OW.pure rfl rfl rfl (E.PV.pick_t rfl rfl rfl) ?_) | (refine E.OW.pure rfl rfl rfl (E.PV.pick_f rfl rfl rfl) ?_))
                          all_goals (refine E.OW.put 118 (.bool (Rt.soundTo g.q i)) rfl (congrArg Value.bool (by first | (rw [hc]; done) | (rw [hc]; rfl))) ?_)
                          all_goals (refine E.OW.put 118 (.bool (Rt.soundTo g.q i)) rfl (by first | rfl | exact congrArg Value.bool (by first | assumption | omega | (simp; done) | (simp_all; done))) ?_)
                          all_goals (exact E.OW.cov (by repeat (first | exact E.cov_nil | refine ⟨rfl, ?_⟩)) hm)
                        refine E.OW.pure rfl rfl rfl (E.PV.move rfl rfl) ?_
                        refine E.OW.join 4 [5, 11, 22, 23, 102, 103, 104] rfl [(123, .bool (Rt.soundTo g.q (i + 1)))] (fun hm => ?_) ?_
                        · skip
                          all_goals (refine E.OW.split 119 rfl (fun hc => ?_) (fun hc => ?_) <;> (try simp only [E.b0, E.b1, E.b2, E.b3, E.b4, E.b5, E.b6, E.b7, E.b8, E.b9, E.b10, E.b11, E.b12, E.b13, E.b14, E.b15, E.b16, E.b17, E.b18, E.b19, E.b20, reduceCtorEq] at hc) <;> (try (exfalso; first | assumption | contradiction | omega)))
                          all_goals (first | (refine E.OW.off rfl rfl rfl ?_) | (refine E.OW.pure rfl rfl rfl (E.PV.loads (i := 0) is28 rfl rfl rfl rfl) ?_))
                          all_goals (first | (refine E.OW.off rfl rfl rfl ?_) | ((refine E.OW.call nm42 rfl rfl rfl rfl rfl rfl _ (fun w hw => So_ok gU w ?_ hUf) ?_; (focus (exact hw.rdcfg (i := 1) rfl)); rintro _ _ ⟨rfl, rfl⟩)))
                          all_goals (first | (refine E.OW.off rfl rfl rfl ?_) | (refine E.OW.pure rfl rfl rfl (E.PV.eql rfl rfl rfl) ?_))
                          all_goals (first | (refine E.OW.pure rfl rfl rfl (E.PV.pick_t rfl rfl rfl) ?_) | (refine E.OW.pure rfl rfl rfl (E.PV.pick_f rfl rfl rfl) ?_))
                          all_goals (refine E.OW.put 123 (.bool (Rt.soundTo g.q (i + 1))) rfl (congrArg Value.bool (by first | (rw [hss, hc]; done) | (rw [hss, hc]; rfl))) ?_)
                          all_goals (refine E.OW.put 123 (.bool (Rt.soundTo g.q (i + 1))) rfl (by first | rfl | exact congrArg Value.bool (by first | assumption | omega | (simp; done) | (simp_all; done))) ?_)
                          all_goals (exact E.OW.cov (by repeat (first | exact E.cov_nil | refine ⟨rfl, ?_⟩)) hm)
                        refine E.OW.pure rfl rfl rfl (E.PV.assign rfl rfl) ?_
                        refine E.OW.nil ?_
                        refine E.blk_n ?_
                        refine E.then_n ?_
                        refine E.CW.region ?_
                        refine E.OW.pure rfl rfl rfl (E.PV.add_i64 rfl rfl rfl ?_) ?_; (focus (omega))
                        refine E.OW.pure rfl rfl rfl (E.PV.move rfl rfl) ?_
                        refine E.OW.nil ?_
                        refine E.then_nf ?_
                        refine ⟨_, [(104, _), (24, _)], [2, 2, 2, 2, 2, 2, 2], _, ?_, by repeat (first | exact E.cov_nil | refine ⟨rfl, ?_⟩), rfl, i + 1, rfl, rfl, rfl, by omega⟩
                        omega)
                    · simp only [E.b0, E.b1, E.b2, E.b3, E.b4, E.b5, E.b6, E.b7, E.b8, E.b9, E.b10, E.b11, E.b12, E.b13, E.b14, E.b15, E.b16, E.b17, E.b18, E.b19, E.b20, reduceCtorEq] at hc
                      all_goals (
                        refine E.CW.exit ?_
                        refine E.then_x ?_
                        refine E.then_x ?_
                        refine E.blk_eq ?_
                        refine E.then_n ?_
                        refine E.CW.seq ?_
                        obtain rfl : i = (Cf.tenants g.q.ts g.q.ts.length).length := by omega
                        have hsa := Rt.soundTo_all (g := g.q) hT.c (i := (Cf.tenants g.q.ts g.q.ts.length).length) rfl
                        refine E.CW.region ?_
                        refine E.OW.pure rfl rfl rfl (E.PV.move rfl rfl) ?_
                        refine E.OW.pure rfl rfl rfl (E.PV.move rfl rfl) ?_
                        all_goals (refine E.OW.put 126 (.bool true) (v := .bool true) rfl rfl ?_)
                        all_goals (refine E.OW.pure rfl rfl rfl (E.PV.move rfl rfl) ?_)
                        all_goals (refine E.OW.pure rfl rfl rfl (E.PV.eql rfl rfl rfl) ?_)
                        all_goals (refine E.OW.pure rfl rfl rfl (E.PV.pick_t rfl rfl rfl) ?_)
                        all_goals (refine E.OW.pure rfl rfl rfl (E.PV.move rfl rfl) ?_)
                        all_goals (refine E.OW.put 130 (.bool true) (v := .bool true) rfl rfl ?_)
                        all_goals (refine E.OW.pure rfl rfl rfl (E.PV.move rfl rfl) ?_)
                        all_goals (refine E.OW.pure rfl rfl rfl (E.PV.len Try.underlying31 rfl rfl) ?_)
                        all_goals (refine E.OW.pure rfl rfl rfl (E.PV.gtr rfl rfl rfl) ?_)
                        all_goals (refine E.OW.pure rfl rfl rfl (E.PV.pick_t rfl rfl rfl) ?_)
                        all_goals (refine E.OW.pure rfl rfl rfl (E.PV.move rfl rfl) ?_)
                        all_goals (refine E.OW.put 135 (.bool true) rfl (congrArg Value.bool ?_) ?_; (focus ((simp only [E.b0, E.b1, E.b2, E.b3, E.b4, E.b5, E.b6, E.b7, E.b8, E.b9, E.b10, E.b11, E.b12, E.b13, E.b14, E.b15, E.b16, E.b17, E.b18, E.b19, E.b20]; omega))))
                        all_goals (refine E.OW.pure rfl rfl rfl (E.PV.move rfl rfl) ?_)
                        all_goals (refine E.OW.pure rfl rfl rfl (E.PV.loads (i := 6) is28 rfl rfl rfl rfl) ?_)
                        all_goals ((refine E.OW.call nm42 rfl rfl rfl rfl rfl rfl _ (fun w hw => So_ok g w ?_ ?_) ?_; (focus (refine hw.rdC ?_; assumption)); (focus (assumption)); rintro _ _ ⟨rfl, rfl⟩))
                        all_goals (refine E.OW.pure rfl rfl rfl (E.PV.eql rfl rfl rfl) ?_)
                        all_goals (refine E.OW.pure rfl rfl rfl (E.PV.beq Try.underlying4 rfl rfl rfl) ?_)
                        all_goals (refine E.OW.put 140 (.bool true) rfl (congrArg Value.bool (by rw [hsa]; simp)) ?_)
                        all_goals (refine E.OW.pure rfl rfl rfl (E.PV.pick_t rfl rfl rfl) ?_)
                        all_goals (refine E.OW.pure rfl rfl rfl (E.PV.assign rfl rfl) ?_)
                        all_goals (
                          refine E.OW.nil ?_
                          refine E.then_n ?_
                          refine E.CW.ret ?_
                          refine E.KR.one [] Try.results18 rfl rfl ?_
                          exact ⟨by first | rfl | (refine congrArg Value.bool (decide_eq_true ?_); omega) | (simp_all; done), rfl⟩)))))))
end Go.Proofs.Ytflkbabhbnmajaa
