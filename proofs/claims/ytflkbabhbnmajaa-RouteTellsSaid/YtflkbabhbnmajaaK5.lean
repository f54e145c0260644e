/- Part 5 of the texts behind the laws RouteReaches, RouteSounds, RouteTables, RouteTells, RouteWalks: the logic, plain laws and walks that they need, for any input that these speak of. -/
import Derived.Laws.StructEq
import Derived.Test.YtflkbabhbnmajaaK4
/- Walks (printed by gen.py). -/
namespace Go.Proofs.Ytflkbabhbnmajaa
open Go Go.RowKit
set_option linter.unusedSimpArgs false
set_option linter.unusedVariables false

set_option maxRecDepth 100000 in
theorem Wk_ok (g : E.Cfg) (t a b tick : Int) (A : Option Addr) (c : Nat) (l : List Int) (w0 : World) (hg : g.rd w0 (E.Old w0)) (hgf : g.q.fit) (ht : 0 ≤ tick ∧ tick < 18446744073709551616) (hX : E.Rd w0 (E.Old w0) A (E.ints l)) (hlc : l.length ≤ c) (hll : l.length * 8 ≤ 140737488351232) :
    Calls Try.prog 20 #[g.v, .int .i64 t, .agg #[.int .i64 a, .int .i64 b], .int .u64 tick, .slice A l.length c] w0 (E.Post w0 (E.Old w0) fun v Hn => v = .tuple #[.bool (Rt.walkR g.q t a b tick l).1, .int .i64 (Rt.walkR g.q t a b tick l).2] ∧ Hn = []) := by
  obtain ⟨hX1, hX2, hX3, hX4⟩ := id hg
  have hgl := E.Cfg.fit_len hgf
  have hT := hX.tail hlc
  have htl : l.tail.length = l.length - 1 := List.length_tail
  refine E.calls_of (vs := [g.v, .int .i64 t, .agg #[.int .i64 a, .int .i64 b], .int .u64 tick, .slice A l.length c]) (H := []) Try.func20 Try.ntmps20 rfl rfl (E.HA.start w0) ?_
  refine E.CW.seq ?_
  refine E.CW.region ?_
  refine E.OW.box rfl rfl rfl rfl rfl rfl (fun B1 => ?_)
  refine E.OW.box rfl rfl rfl rfl rfl rfl (fun B2 => ?_)
  refine E.OW.pure rfl rfl rfl (E.PV.assign rfl rfl) ?_
  refine E.OW.pure rfl rfl rfl (E.PV.assign rfl rfl) ?_
  refine E.OW.nil ?_
  refine E.then_n ?_
  refine E.CW.seq ?_
  refine E.CW.seq ?_
  refine E.CW.region ?_
  refine E.OW.pure rfl rfl rfl (E.PV.loads (i := 1) is28 rfl rfl rfl rfl) ?_
  refine E.OW.pure rfl rfl rfl (E.PV.move rfl rfl) ?_
  refine E.OW.pure rfl rfl rfl (E.PV.loads (i := 0) is30 rfl rfl rfl rfl) ?_
  refine E.OW.pure rfl rfl rfl (E.PV.move rfl rfl) ?_
  (refine E.OW.call nm58 rfl rfl rfl rfl rfl rfl _ (fun w hw => Le_ok g t a b tick w ?_ ?_ ?_) ?_; (focus (refine hw.rdC ?_; assumption)); (focus (assumption)); (focus (assumption)); rintro _ _ ⟨rfl, rfl⟩)
  refine E.OW.pure rfl rfl rfl (E.PV.assign rfl rfl) ?_
  refine E.OW.nil ?_
  refine E.then_n ?_
  refine E.CW.seq ?_
  refine E.CW.region ?_
  refine E.OW.pure rfl rfl rfl (E.PV.move rfl rfl) ?_
  refine E.OW.pure rfl rfl rfl (E.PV.neq rfl rfl rfl) ?_
  refine E.OW.nil ?_
  refine E.then_n ?_
  refine E.CW.cond rfl (fun hc => ?_) (fun hc => ?_)
  · simp only [E.b0, E.b1, E.b2, E.b3, E.b4, E.b5, E.b6, E.b7, E.b8, E.b9, E.b10, E.b11, E.b12, E.b13, E.b14, E.b15, E.b16, E.b17, E.b18, E.b19, E.b20, reduceCtorEq] at hc
    all_goals (
      refine E.CW.seq ?_
      refine E.CW.region ?_
      refine E.OW.pure rfl rfl rfl (E.PV.move rfl rfl) ?_
      refine E.OW.pure rfl rfl rfl (E.PV.assign rfl rfl) ?_
      refine E.OW.pure rfl rfl rfl (E.PV.assign rfl rfl) ?_
      refine E.OW.nil ?_
      refine E.then_n ?_
      refine E.CW.ret ?_
      refine E.then_ret ?_
      refine E.KR.two [] Try.results20 rfl rfl rfl ?_
      exact ⟨by rw [Rt.walk_err (by assumption)], rfl⟩)
  · simp only [E.b0, E.b1, E.b2, E.b3, E.b4, E.b5, E.b6, E.b7, E.b8, E.b9, E.b10, E.b11, E.b12, E.b13, E.b14, E.b15, E.b16, E.b17, E.b18, E.b19, E.b20, reduceCtorEq] at hc
    all_goals (
      refine E.CW.skip ?_
      refine E.then_n ?_
      refine E.CW.seq ?_
      refine E.CW.seq ?_
      obtain ⟨hL, hlk⟩ := Rt.leg_of (show Rt.legE g.q t a b tick = 0 by assumption)
      refine E.CW.region ?_
      refine E.OW.pure rfl rfl rfl (E.PV.move rfl rfl) ?_
      refine E.OW.pure rfl rfl rfl (E.PV.len Try.underlying31 rfl rfl) ?_
      refine E.OW.pure rfl rfl rfl (E.PV.gtr rfl rfl rfl) ?_
      refine E.OW.nil ?_
      refine E.then_n ?_
      refine E.CW.cond rfl (fun hc => ?_) (fun hc => ?_)
      · simp only [E.b0, E.b1, E.b2, E.b3, E.b4, E.b5, E.b6, E.b7, E.b8, E.b9, E.b10, E.b11, E.b12, E.b13, E.b14, E.b15, E.b16, E.b17, E.b18, E.b19, E.b20, reduceCtorEq] at hc
        all_goals (
          refine E.CW.seq ?_
          refine E.CW.region ?_
          refine E.OW.pure rfl rfl rfl (E.PV.assign rfl rfl) ?_
          refine E.OW.pure rfl rfl rfl (E.PV.assign rfl rfl) ?_
          refine E.OW.nil ?_
          refine E.then_n ?_
          refine E.CW.ret ?_
          refine E.then_ret ?_
          refine E.KR.two [] Try.results20 rfl rfl rfl ?_
          exact ⟨by rw [Rt.walk_many (by assumption) (by omega)], rfl⟩)
      · simp only [E.b0, E.b1, E.b2, E.b3, E.b4, E.b5, E.b6, E.b7, E.b8, E.b9, E.b10, E.b11, E.b12, E.b13, E.b14, E.b15, E.b16, E.b17, E.b18, E.b19, E.b20, reduceCtorEq] at hc
        all_goals (
          refine E.CW.skip ?_
          refine E.then_n ?_
          refine E.CW.seq ?_
          refine E.CW.seq ?_
          refine E.CW.draw mixed (by kernel_rfl) ?_
          refine E.QW.pure rfl rfl rfl (E.PV.move rfl rfl) ?_
          refine E.QW.pure rfl rfl rfl (E.PV.len Try.underlying31 rfl rfl) ?_
          refine E.QW.pure rfl rfl rfl (E.PV.eql rfl rfl rfl) ?_
          refine E.QW.pure rfl rfl rfl (E.PV.move rfl rfl) ?_
          all_goals (refine E.QW.split 33 rfl (fun hc => ?_) (fun hc => ?_) <;> (try simp only [E.b0, E.b1, E.b2, E.b3, E.b4, E.b5, E.b6, E.b7, E.b8, E.b9, E.b10, E.b11, E.b12, E.b13, E.b14, E.b15, E.b16, E.b17, E.b18, E.b19, E.b20, reduceCtorEq] at hc) <;> (try (exfalso; first | assumption | contradiction | omega)))
          all_goals (first | (refine E.QW.off rfl rfl rfl ?_) | (refine E.QW.pure rfl rfl rfl (E.PV.move rfl rfl) ?_))
          all_goals (first | (refine E.QW.off rfl rfl rfl ?_) | (refine E.QW.pure rfl rfl rfl (E.PV.indexAddr1 (E.rdc hX) Try.underlying31 in3 rfl rfl rfl (E.tn ?_) ?_ ?_) ?_; (focus (omega)); (focus (first | (simp; done) | (simp; omega))); (focus (omega))))
          all_goals (first | (refine E.QW.off rfl rfl rfl ?_) | (refine E.QW.pure rfl rfl rfl (E.PV.load_int (E.rdc hX) na3 rfl rfl ?_) ?_; (focus (omega))))
          all_goals (first | (refine E.QW.off rfl rfl rfl ?_) | (refine E.QW.pure rfl rfl rfl (E.PV.fieldAddr fa30_0 rfl rfl) ?_))
          all_goals (first | (refine E.QW.off rfl rfl rfl ?_) | (refine E.QW.pure rfl rfl rfl (E.PV.load (i := 0) na3 rfl rfl rfl rfl) ?_))
          all_goals (first | (refine E.QW.off rfl rfl rfl ?_) | (refine E.QW.pure rfl rfl rfl (E.PV.neq rfl rfl rfl) ?_))
          all_goals (first | (refine E.QW.pure rfl rfl rfl (E.PV.pick_t rfl rfl rfl) ?_) | (refine E.QW.pure rfl rfl rfl (E.PV.pick_f rfl rfl rfl) ?_))
          all_goals (refine E.QW.pure rfl rfl rfl (E.PV.move rfl rfl) ?_)
          all_goals (first | (refine E.QW.put 41 (.bool true) (v := .bool true) rfl rfl ?_) | (refine E.QW.split 41 rfl (fun hc => ?_) (fun hc => ?_) <;> (try simp only [E.b0, E.b1, E.b2, E.b3, E.b4, E.b5, E.b6, E.b7, E.b8, E.b9, E.b10, E.b11, E.b12, E.b13, E.b14, E.b15, E.b16, E.b17, E.b18, E.b19, E.b20, reduceCtorEq] at hc) <;> (try (exfalso; first | assumption | contradiction | omega))))
          all_goals (first | (refine E.QW.off rfl rfl rfl ?_) | (refine E.QW.pure rfl rfl rfl (E.PV.move rfl rfl) ?_))
          all_goals (first | (refine E.QW.off rfl rfl rfl ?_) | (refine E.QW.pure rfl rfl rfl (E.PV.move rfl rfl) ?_))
          all_goals (first | (refine E.QW.off rfl rfl rfl ?_) | (refine E.QW.pure rfl rfl rfl (E.PV.len Try.underlying31 rfl rfl) ?_))
          all_goals (first | (refine E.QW.off rfl rfl rfl ?_) | (refine E.QW.pure rfl rfl rfl (E.PV.sub_i64 rfl rfl rfl ?_) ?_; (focus (omega))))
          all_goals (first | (refine E.QW.off rfl rfl rfl ?_) | (refine E.QW.pure rfl rfl rfl (E.PV.indexAddr1 (E.rdc hX) Try.underlying31 in3 rfl rfl rfl (E.tn ?_) ?_ ?_) ?_; (focus (omega)); (focus (first | (simp; done) | (simp; omega))); (focus (omega))))
          all_goals (first | (refine E.QW.off rfl rfl rfl ?_) | (refine E.QW.pure rfl rfl rfl (E.PV.load_int (E.rdc hX) na3 rfl rfl ?_) ?_; (focus (omega))))
          all_goals (first | (refine E.QW.off rfl rfl rfl ?_) | (refine E.QW.pure rfl rfl rfl (E.PV.fieldAddr fa30_1 rfl rfl) ?_))
          all_goals (first | (refine E.QW.off rfl rfl rfl ?_) | (refine E.QW.pure rfl rfl rfl (E.PV.load (i := 0) na3 rfl rfl rfl rfl) ?_))
          all_goals (first | (refine E.QW.off rfl rfl rfl ?_) | (refine E.QW.pure rfl rfl rfl (E.PV.neq rfl rfl rfl) ?_))
          all_goals (first | (refine E.QW.pure rfl rfl rfl (E.PV.pick_t rfl rfl rfl) ?_) | (refine E.QW.pure rfl rfl rfl (E.PV.pick_f rfl rfl rfl) ?_))
          all_goals (
            refine E.QW.nil ?_
            refine E.then_n ?_
            refine E.CW.cond rfl (fun hc => ?_) (fun hc => ?_)
            · simp only [E.b0, E.b1, E.b2, E.b3, E.b4, E.b5, E.b6, E.b7, E.b8, E.b9, E.b10, E.b11, E.b12, E.b13, E.b14, E.b15, E.b16, E.b17, E.b18, E.b19, E.b20, reduceCtorEq] at hc
              all_goals (
                refine E.CW.seq ?_
                refine E.CW.region ?_
                refine E.OW.pure rfl rfl rfl (E.PV.assign rfl rfl) ?_
                refine E.OW.pure rfl rfl rfl (E.PV.assign rfl rfl) ?_
                refine E.OW.nil ?_
                refine E.then_n ?_
                refine E.CW.ret ?_
                refine E.then_ret ?_
                refine E.KR.two [] Try.results20 rfl rfl rfl ?_
                exact ⟨by rw [Rt.walk_no (by assumption) (by omega) (fun hw => by (obtain ⟨h1, h2, h3, _⟩ := hw); (have hto : ((l.length : Int) - 1).toNat = l.length - 1 := by omega); simp_all)], rfl⟩)
            · first | ((cases hc; done)) | (simp only [E.b0, E.b1, E.b2, E.b3, E.b4, E.b5, E.b6, E.b7, E.b8, E.b9, E.b10, E.b11, E.b12, E.b13, E.b14, E.b15, E.b16, E.b17, E.b18, E.b19, E.b20, reduceCtorEq] at hc)
              all_goals (
                refine E.CW.skip ?_
                refine E.then_n ?_
                refine E.CW.seq ?_
                refine E.CW.region ?_
                refine E.OW.pure rfl rfl rfl (E.PV.loads (i := 1) is28 rfl rfl rfl rfl) ?_
                refine E.OW.pure rfl rfl rfl (E.PV.move rfl rfl) ?_
                refine E.OW.pure rfl rfl rfl (E.PV.loads (i := 0) is30 rfl rfl rfl rfl) ?_
                (refine E.OW.call nm59 rfl rfl rfl rfl rfl rfl _ (fun w hw => np_ok g t a b w ?_ ?_ ?_) ?_; (focus (refine hw.rdC ?_; assumption)); (focus (assumption)); (focus (assumption)); rintro _ _ ⟨yP, DP, rfl, rfl, hyx, hyD⟩)
                refine E.OW.pure rfl rfl rfl (E.PV.assign rfl rfl) ?_
                refine E.OW.nil ?_
                have hyn : yP.x.n = g.l.length := by rw [hyx]; rfl
                have hyK : yP.x.K = g.s.length := by rw [hyx]; rfl
                have hn64 : g.l.length ≤ 64 := Rt.len_le hL.c
                have hs16 : 1 ≤ g.s.length ∧ g.s.length ≤ 16 := Rt.per_of hL.c
                have hra : 0 ≤ a ∧ a < (g.l.length : Int) := hL.ra
                have hok : yP.x.ok := by rw [hyx]; exact Rt.G_ok hL
                refine E.then_n ?_
                refine E.CW.seq ?_
                refine E.CW.seq ?_
                have hl0 : l.getD 0 0 = a := by simp_all
                have hlb : l.getD (l.length - 1) 0 = b := by (have hto : ((l.length : Int) - 1).toNat = l.length - 1 := by omega); simp_all
                refine E.CW.region ?_
                refine E.OW.pure rfl rfl rfl (E.PV.move rfl rfl) ?_
                refine E.OW.pure rfl rfl rfl (E.PV.tail Try.underlying31 in3 rfl rfl rfl ?_) ?_; (focus (omega))
                refine E.OW.pure rfl rfl rfl (E.PV.len Try.underlying31 rfl rfl) ?_
                refine E.OW.pure rfl rfl rfl (E.PV.move rfl rfl) ?_
                refine E.OW.nil ?_
                refine E.then_n ?_
                refine E.CW.block ?_
                refine E.CW.loopk [3, 4, 13, 57, 58] 0 rfl rfl (fun mm mods Hm => ∃ i : Nat, mm = l.length - 1 - i ∧ mods = [(59, .int .i64 i)] ∧ Hm = [] ∧ (i ≤ l.length - 1 ∧ Rt.stepsOk yP.x (Rt.phk yP.x.K tick) l i ∧ 0 ≤ l.getD i 0 ∧ l.getD i 0 < yP.x.n)) (l.length - 1) ?_ ?_
                · exact ⟨[(59, _)], (by repeat (first | exact E.cov_nil | refine ⟨rfl, ?_⟩)), 0, rfl, rfl, rfl, by omega, Rt.steps_zero _ _ _, by omega, by omega⟩
                · rintro _ _ _ ⟨i, rfl, rfl, rfl, hi, hst, hi0, hin⟩
                  refine E.CW.seq ?_
                  refine E.CW.region ?_
                  refine E.OW.pure rfl rfl rfl (E.PV.lss rfl rfl rfl) ?_
                  refine E.OW.nil ?_
                  refine E.then_n ?_
                  refine E.CW.seq ?_
                  refine E.CW.cond rfl (fun hc => ?_) (fun hc => ?_)
                  · simp only [E.b0, E.b1, E.b2, E.b3, E.b4, E.b5, E.b6, E.b7, E.b8, E.b9, E.b10, E.b11, E.b12, E.b13, E.b14, E.b15, E.b16, E.b17, E.b18, E.b19, E.b20, reduceCtorEq] at hc
                    all_goals (
                      refine E.CW.skip ?_
                      refine E.then_n ?_
                      refine E.CW.seq ?_
                      refine E.CW.block ?_
                      refine E.CW.seq ?_
                      refine E.CW.region ?_
                      refine E.OW.pure rfl rfl rfl (E.PV.move rfl rfl) ?_
                      refine E.OW.pure rfl rfl rfl (E.PV.indexAddr1 (E.rdc hT) Try.underlying31 in3 rfl rfl rfl rfl ?_ ?_) ?_; (focus (first | (simp; done) | (simp; omega))); (focus (omega))
                      refine E.OW.pure rfl rfl rfl (E.PV.load_int (E.rdc hT) na3 rfl rfl ?_) ?_; (focus (omega))
                      refine E.OW.pure rfl rfl rfl (E.PV.assign rfl rfl) ?_
                      refine E.OW.pure rfl rfl rfl (E.PV.assign rfl rfl) ?_
                      refine E.OW.nil ?_
                      refine E.then_n ?_
                      refine E.CW.seq ?_
                      refine E.CW.put 15 (.int .i64 (l.getD (i + 1) 0)) rfl (congrArg (Value.int .i64) (E.tail_get l i)) ?_
                      refine E.CW.region ?_
                      refine E.OW.pure rfl rfl rfl (E.PV.assign rfl rfl) ?_
                      refine E.OW.nil ?_
                      refine E.then_n ?_
                      refine E.CW.seq ?_
                      refine E.CW.seq ?_
                      have hpn : (l.getD i 0).toNat < yP.x.n := by omega
                      have hnr : (yP.x.nr (l.getD i 0).toNat).length ≤ 5 := by rw [hyx]; exact Rt.G_near _ _ _ _ _
                      refine E.CW.draw mixed (by kernel_rfl) ?_
                      refine E.QW.pure rfl rfl rfl (E.PV.move rfl rfl) ?_
                      refine E.QW.pure rfl rfl rfl (E.PV.nilCheck rfl rfl) ?_
                      refine E.QW.pure rfl rfl rfl (E.PV.fieldAddr fa93_4 rfl rfl) ?_
                      refine E.QW.pure rfl rfl rfl (E.PV.load_at (E.p_b (E.sr0p (i := 0) rfl)) na91 rfl rfl rfl) ?_
                      refine E.QW.pure rfl rfl rfl (E.PV.move rfl rfl) ?_
                      refine E.QW.pure rfl rfl rfl (E.PV.move rfl rfl) ?_
                      refine E.QW.pure rfl rfl rfl (E.PV.indexAddr1 (E.rdc hX) Try.underlying31 in3 rfl rfl rfl rfl ?_ ?_) ?_; (focus (first | (simp; done) | (simp; omega))); (focus (omega))
                      refine E.QW.pure rfl rfl rfl (E.PV.load_int (E.rdc hX) na3 rfl rfl ?_) ?_; (focus (omega))
                      refine E.QW.pure rfl rfl rfl (E.PV.indexAddr1 (E.p_n (E.sr0p (i := 0) rfl)) Try.underlying91 in31 rfl rfl rfl (E.tn ?_) ?_ ?_) ?_; (focus (omega)); (focus (first | (simp; done) | (simp; omega))); (focus (omega))
                      refine E.QW.pure rfl rfl rfl (E.PV.load_sn (E.p_n (E.sr0p (i := 0) rfl)) na31 rfl rfl ?_) ?_; (focus (omega))
                      refine E.QW.pure rfl rfl rfl (E.PV.len Try.underlying31 rfl rfl) ?_
                      refine E.QW.pure rfl rfl rfl (E.PV.move rfl rfl) ?_
                      refine E.QW.nil ?_
                      refine E.then_n ?_
                      refine E.CW.block ?_
                      refine E.CW.loopk [3, 4, 13, 14, 15, 57, 58, 59, 73, 74] 0 rfl rfl (fun mm mods Hm => ∃ j : Nat, mm = (yP.x.nr (l.getD i 0).toNat).length - j ∧ mods = [(16, .bool (Rt.fnd yP.x (l.getD i 0).toNat j (l.getD (i + 1) 0))), (75, .int .i64 j)] ∧ Hm = [] ∧ j ≤ (yP.x.nr (l.getD i 0).toNat).length) ((yP.x.nr (l.getD i 0).toNat).length) ?_ ?_
                      · exact ⟨[(16, _), (75, _)], (by repeat (first | exact E.cov_nil | refine ⟨rfl, ?_⟩)), 0, rfl, (by rw [Rt.fnd_zero]; rfl), rfl, by omega⟩
                      · rintro _ _ _ ⟨j, rfl, rfl, rfl, hj⟩
                        refine E.CW.seq ?_
                        refine E.CW.region ?_
                        refine E.OW.pure rfl rfl rfl (E.PV.lss rfl rfl rfl) ?_
                        refine E.OW.nil ?_
                        refine E.then_n ?_
                        refine E.CW.seq ?_
                        refine E.CW.cond rfl (fun hc => ?_) (fun hc => ?_)
                        · simp only [E.b0, E.b1, E.b2, E.b3, E.b4, E.b5, E.b6, E.b7, E.b8, E.b9, E.b10, E.b11, E.b12, E.b13, E.b14, E.b15, E.b16, E.b17, E.b18, E.b19, E.b20, reduceCtorEq] at hc
                          all_goals (
                            refine E.CW.skip ?_
                            refine E.then_n ?_
                            refine E.CW.seq ?_
                            refine E.CW.block ?_
                            refine E.CW.seq ?_
                            refine E.CW.region ?_
                            refine E.OW.pure rfl rfl rfl (E.PV.indexAddr1 (E.p_nr (E.sr0p (i := 0) rfl) ?_) Try.underlying31 in3 rfl rfl rfl rfl ?_ ?_) ?_; (focus (omega)); (focus (first | (simp; done) | (simp; omega))); (focus (omega))
                            refine E.OW.pure rfl rfl rfl (E.PV.load_nn (E.p_nr (E.sr0p (i := 0) rfl) ?_) na3 rfl rfl ?_) ?_; (focus (omega)); (focus (omega))
                            refine E.OW.pure rfl rfl rfl (E.PV.assign rfl rfl) ?_
                            refine E.OW.nil ?_
                            refine E.then_n ?_
                            refine E.CW.region ?_
                            refine E.OW.pure rfl rfl rfl (E.PV.move rfl rfl) ?_
                            refine E.OW.pure rfl rfl rfl (E.PV.move rfl rfl) ?_
                            all_goals (refine E.OW.split 80 rfl (fun hc => ?_) (fun hc => ?_) <;> (try simp only [E.b0, E.b1, E.b2, E.b3, E.b4, E.b5, E.b6, E.b7, E.b8, E.b9, E.b10, E.b11, E.b12, E.b13, E.b14, E.b15, E.b16, E.b17, E.b18, E.b19, E.b20, reduceCtorEq] at hc) <;> (try (exfalso; first | assumption | contradiction | omega)))
                            all_goals (first | (refine E.OW.off rfl rfl rfl ?_) | (refine E.OW.pure rfl rfl rfl (E.PV.move rfl rfl) ?_))
                            all_goals (first | (refine E.OW.off rfl rfl rfl ?_) | (refine E.OW.pure rfl rfl rfl (E.PV.move rfl rfl) ?_))
                            all_goals (first | (refine E.OW.off rfl rfl rfl ?_) | (refine E.OW.pure rfl rfl rfl (E.PV.eql rfl rfl rfl) ?_))
                            all_goals (first | (refine E.OW.pure rfl rfl rfl (E.PV.pick_t rfl rfl rfl) ?_) | (refine E.OW.pure rfl rfl rfl (E.PV.pick_f rfl rfl rfl) ?_))
                            all_goals (refine E.OW.pure rfl rfl rfl (E.PV.assign rfl rfl) ?_)
                            all_goals (
                              refine E.OW.nil ?_
                              refine E.blk_n ?_
                              refine E.then_n ?_
                              refine E.CW.region ?_
                              refine E.OW.pure rfl rfl rfl (E.PV.add_i64 rfl rfl rfl ?_) ?_; (focus (omega))
                              refine E.OW.pure rfl rfl rfl (E.PV.move rfl rfl) ?_
                              refine E.OW.nil ?_
                              refine E.then_nf ?_
                              refine ⟨_, [(16, _), (75, _)], [0, 0, 0], _, ?_, by repeat (first | exact E.cov_nil | refine ⟨rfl, ?_⟩), rfl, j + 1, rfl, (by rw [← Rt.fnd_step (V := _) (by omega) rfl]; simp_all), rfl, by omega⟩
                              omega))
                        · simp only [E.b0, E.b1, E.b2, E.b3, E.b4, E.b5, E.b6, E.b7, E.b8, E.b9, E.b10, E.b11, E.b12, E.b13, E.b14, E.b15, E.b16, E.b17, E.b18, E.b19, E.b20, reduceCtorEq] at hc
                          all_goals (
                            refine E.CW.exit ?_
                            refine E.then_x ?_
                            refine E.then_x ?_
                            refine E.blk_eq ?_
                            refine E.then_n ?_
                            refine E.CW.seq ?_
                            have hkl := Rt.phk_lt (show 1 ≤ yP.x.K by omega) (tick + (i : Int) + 1)
                            have hkm : Rt.phk yP.x.K (tick + (i : Int) + 1) = (Rt.phk yP.x.K tick + i + 1) % yP.x.K := by rw [show tick + (i : Int) + 1 = tick + ((i + 1 : Nat) : Int) by omega, Rt.phk_add (by omega)]; rfl
                            have hti : (tick + (i : Int) + 1) < 18446744073709551616 := by omega
                            rcases Rt.fnd_cases hok (z := (l.getD (i + 1) 0)) hpn (show (yP.x.nr (l.getD i 0).toNat).length ≤ j by omega) with ⟨hfd, hz0, hzn, hzm⟩ | ⟨hfd, hzm⟩
                            all_goals rw [hfd]
                            · skip
                              refine E.CW.draw mixed (by kernel_rfl) ?_
                              refine E.QW.pure rfl rfl rfl (E.PV.move rfl rfl) ?_
                              refine E.QW.pure rfl rfl rfl (E.PV.not rfl rfl) ?_
                              refine E.QW.pure rfl rfl rfl (E.PV.move rfl rfl) ?_
                              all_goals (refine E.QW.put 88 (.bool false) (v := .bool false) rfl rfl ?_)
                              all_goals (refine E.QW.pure rfl rfl rfl (E.PV.move rfl rfl) ?_)
                              all_goals (refine E.QW.pure rfl rfl rfl (E.PV.nilCheck rfl rfl) ?_)
                              all_goals (refine E.QW.pure rfl rfl rfl (E.PV.fieldAddr fa93_2 rfl rfl) ?_)
                              all_goals (refine E.QW.pure rfl rfl rfl (E.PV.load_at (E.p_b (E.sr0p (i := 0) rfl)) na90 rfl rfl rfl) ?_)
                              all_goals (refine E.QW.pure rfl rfl rfl (E.PV.move rfl rfl) ?_)
                              all_goals (refine E.QW.pure rfl rfl rfl (E.PV.move rfl rfl) ?_)
                              all_goals (refine E.QW.pure rfl rfl rfl (E.PV.move rfl rfl) ?_)
                              all_goals (refine E.QW.pure rfl rfl rfl (E.PV.conv_in Try.underlying3 Try.underlying26 rfl rfl ?_) ?_; (focus (first | exact E.wrap_u8 _ | (simp only [IntKind.wrap_i64, IntKind.wrap_u64, IntKind.wrap_u8]; omega))))
                              all_goals (refine E.QW.pure rfl rfl rfl (E.PV.add_u64 rfl rfl rfl ?_) ?_; (focus (omega)))
                              all_goals (refine E.QW.pure rfl rfl rfl (E.PV.add_u64 rfl rfl rfl ?_) ?_; (focus (omega)))
                              all_goals ((refine E.QW.call nm60 rfl rfl rfl rfl rfl rfl _ (fun w hw => E.Post.val (ph_ok yP (tick + (i : Int) + 1) w ?_ ?_ ?_)) ?_; (focus (exact E.sr0p (i := 0) rfl w hw)); (focus (omega)); (focus (omega))))
                              all_goals (refine E.QW.pure rfl rfl rfl (E.PV.indexAddr1 (E.p_a (E.sr0p (i := 0) rfl)) Try.underlying90 in89 rfl rfl rfl rfl ?_ ?_) ?_; (focus (first | (simp; done) | (simp; omega))); (focus (omega)))
                              all_goals (refine E.QW.pure rfl rfl rfl (E.PV.load_sc (E.p_a (E.sr0p (i := 0) rfl)) na89 rfl rfl ?_) ?_; (focus (omega)))
                              all_goals (refine E.QW.pure rfl rfl rfl (E.PV.move rfl rfl) ?_)
                              all_goals (refine E.QW.pure rfl rfl rfl (E.PV.indexAddr1 (E.p_ar (E.sr0p (i := 0) rfl) ?_) Try.underlying89 in4 rfl rfl rfl (E.tn ?_) ?_ ?_) ?_; (focus (omega)); (focus (omega)); (focus (first | (simp; done) | (simp; omega))); (focus (omega)))
                              all_goals (refine E.QW.pure rfl rfl rfl (E.PV.load_bl (E.p_ar (E.sr0p (i := 0) rfl) ?_) na4 rfl rfl ?_) ?_; (focus (omega)); (focus (omega)))
                              all_goals (refine E.QW.pure rfl rfl rfl (E.PV.not rfl rfl) ?_)
                              all_goals (refine E.QW.pure rfl rfl rfl (E.PV.pick_f rfl rfl rfl) ?_)
                              all_goals (
                                refine E.QW.nil ?_
                                refine E.then_n ?_
                                refine E.CW.cond rfl (fun hc => ?_) (fun hc => ?_)
                                · simp only [E.b0, E.b1, E.b2, E.b3, E.b4, E.b5, E.b6, E.b7, E.b8, E.b9, E.b10, E.b11, E.b12, E.b13, E.b14, E.b15, E.b16, E.b17, E.b18, E.b19, E.b20, reduceCtorEq] at hc
                                  all_goals (
                                    refine E.CW.seq ?_
                                    refine E.CW.region ?_
                                    refine E.OW.pure rfl rfl rfl (E.PV.assign rfl rfl) ?_
                                    refine E.OW.pure rfl rfl rfl (E.PV.assign rfl rfl) ?_
                                    refine E.OW.nil ?_
                                    refine E.then_n ?_
                                    refine E.CW.ret ?_
                                    refine E.blk_ret ?_
                                    refine E.then_ret ?_
                                    refine E.then_ret ?_
                                    refine E.blk_ret ?_
                                    refine E.then_ret ?_
                                    refine E.KR.two [] Try.results20 rfl rfl rfl ?_
                                    exact ⟨by rw [Rt.walk_no (by assumption) (by omega) (fun hw => by (obtain ⟨_, _, _, h4⟩ := hw); (have h5 := h4 i (by omega)); rw [show Rt.ph g.q tick = Rt.phk yP.x.K tick from by rw [hyx]; rfl, ← hyx, ← hkm] at h5; simp_all)], rfl⟩)
                                · simp only [E.b0, E.b1, E.b2, E.b3, E.b4, E.b5, E.b6, E.b7, E.b8, E.b9, E.b10, E.b11, E.b12, E.b13, E.b14, E.b15, E.b16, E.b17, E.b18, E.b19, E.b20, reduceCtorEq] at hc
                                  all_goals (
                                    refine E.CW.skip ?_
                                    refine E.blk_n ?_
                                    refine E.then_n ?_
                                    refine E.CW.region ?_
                                    refine E.OW.pure rfl rfl rfl (E.PV.add_i64 rfl rfl rfl ?_) ?_; (focus (omega))
                                    refine E.OW.pure rfl rfl rfl (E.PV.move rfl rfl) ?_
                                    refine E.OW.nil ?_
                                    refine E.then_nf ?_
                                    refine ⟨_, [(59, _)], [0, 0, 0], _, ?_, by repeat (first | exact E.cov_nil | refine ⟨rfl, ?_⟩), rfl, i + 1, rfl, rfl, rfl, by omega, Rt.steps_next hst hz0 hzm (by rw [← hkm]; assumption), hz0, hzn⟩
                                    omega))
                            · skip
                              refine E.CW.draw mixed (by kernel_rfl) ?_
                              refine E.QW.pure rfl rfl rfl (E.PV.move rfl rfl) ?_
                              refine E.QW.pure rfl rfl rfl (E.PV.not rfl rfl) ?_
                              refine E.QW.pure rfl rfl rfl (E.PV.move rfl rfl) ?_
                              all_goals (refine E.QW.put 88 (.bool true) (v := .bool true) rfl rfl ?_)
                              all_goals (refine E.QW.off rfl rfl rfl ?_)
                              all_goals (refine E.QW.off rfl rfl rfl ?_)
                              all_goals (refine E.QW.off rfl rfl rfl ?_)
                              all_goals (refine E.QW.off rfl rfl rfl ?_)
                              all_goals (refine E.QW.off rfl rfl rfl ?_)
                              all_goals (refine E.QW.off rfl rfl rfl ?_)
                              all_goals (refine E.QW.off rfl rfl rfl ?_)
                              all_goals (refine E.QW.off rfl rfl rfl ?_)
                              all_goals (refine E.QW.off rfl rfl rfl ?_)
                              all_goals (refine E.QW.off rfl rfl rfl ?_)
                              all_goals (refine E.QW.off rfl rfl rfl ?_)
                              all_goals (refine E.QW.off rfl rfl rfl ?_)
                              all_goals (refine E.QW.off rfl rfl rfl ?_)
                              all_goals (refine E.QW.off rfl rfl rfl ?_)
                              all_goals (refine E.QW.off rfl rfl rfl ?_)
                              all_goals (refine E.QW.off rfl rfl rfl ?_)
                              all_goals (refine E.QW.off rfl rfl rfl ?_)
                              all_goals (refine E.QW.pure rfl rfl rfl (E.PV.pick_t rfl rfl rfl) ?_)
                              all_goals (
                                refine E.QW.nil ?_
                                refine E.then_n ?_
                                refine E.CW.cond rfl (fun hc => ?_) (fun hc => ?_)
                                · simp only [E.b0, E.b1, E.b2, E.b3, E.b4, E.b5, E.b6, E.b7, E.b8, E.b9, E.b10, E.b11, E.b12, E.b13, E.b14, E.b15, E.b16, E.b17, E.b18, E.b19, E.b20, reduceCtorEq] at hc
                                  all_goals (
                                    refine E.CW.seq ?_
                                    refine E.CW.region ?_
                                    refine E.OW.pure rfl rfl rfl (E.PV.assign rfl rfl) ?_
                                    refine E.OW.pure rfl rfl rfl (E.PV.assign rfl rfl) ?_
                                    refine E.OW.nil ?_
                                    refine E.then_n ?_
                                    refine E.CW.ret ?_
                                    refine E.blk_ret ?_
                                    refine E.then_ret ?_
                                    refine E.then_ret ?_
                                    refine E.blk_ret ?_
                                    refine E.then_ret ?_
                                    refine E.KR.two [] Try.results20 rfl rfl rfl ?_
                                    exact ⟨by rw [Rt.walk_no (by assumption) (by omega) (fun hw => by (obtain ⟨_, _, _, h4⟩ := hw); (have h5 := h4 i (by omega)); rw [show Rt.ph g.q tick = Rt.phk yP.x.K tick from by rw [hyx]; rfl, ← hyx, ← hkm] at h5; simp_all)], rfl⟩)
                                · (cases hc; done))))
                  · simp only [E.b0, E.b1, E.b2, E.b3, E.b4, E.b5, E.b6, E.b7, E.b8, E.b9, E.b10, E.b11, E.b12, E.b13, E.b14, E.b15, E.b16, E.b17, E.b18, E.b19, E.b20, reduceCtorEq] at hc
                    all_goals (
                      refine E.CW.exit ?_
                      refine E.then_x ?_
                      refine E.then_x ?_
                      refine E.blk_eq ?_
                      refine E.then_n ?_
                      refine E.CW.seq ?_
                      refine E.CW.region ?_
                      refine E.OW.pure rfl rfl rfl (E.PV.assign rfl rfl) ?_
                      refine E.OW.pure rfl rfl rfl (E.PV.assign rfl rfl) ?_
                      refine E.OW.nil ?_
                      refine E.then_n ?_
                      refine E.CW.ret ?_
                      refine E.KR.two [] Try.results20 rfl rfl rfl ?_
                      obtain rfl : i = l.length - 1 := by omega
                      exact ⟨by rw [Rt.walk_yes (by assumption) (by omega) ⟨by omega, hl0, hlb, by rw [show Rt.ph g.q tick = Rt.phk yP.x.K tick from by rw [hyx]; rfl, ← hyx]; exact hst⟩], rfl⟩)))))
end Go.Proofs.Ytflkbabhbnmajaa

/- The legs of a tenant, the longest one, sound configs, bounds: plainly; and their slices. -/
set_option linter.unusedSimpArgs false
set_option linter.unusedVariables false
namespace Go.Proofs.Ytflkbabhbnmajaa
namespace Rt
open Cf
theorem prs_succ {u v : List Int} {i : Nat} (hi : i < u.length) : prs (u.take (i + 1)) v = prs (u.take i) v ++ v.map fun q => (u.getD i 0, q) := by
  unfold prs
  rw [List.take_add_one, List.getElem?_eq_getElem hi, Option.toList_some, List.flatMap_append]
  simp [List.getD, hi]
theorem prs_len (u v : List Int) : (prs u v).length = u.length * v.length := by
  unfold prs
  induction u with
  | nil => simp
  | cons a r ih => simp only [List.flatMap_cons, List.length_append, List.length_map, ih, List.length_cons]; rw [Nat.succ_mul]; omega
theorem map_snoc {u v : List Int} {L : List (Int × Int)} {i j : Nat} (hj : j < v.length) : L ++ (v.take (j + 1)).map (fun q => (u.getD i 0, q)) = (L ++ (v.take j).map fun q => (u.getD i 0, q)) ++ [(u.getD i 0, v.getD j 0)] := by
  rw [List.take_add_one, List.getElem?_eq_getElem hj, Option.toList_some, List.map_append, List.append_assoc]
  simp [List.getD, hj]
theorem prs_mem {u v : List Int} {x : Int × Int} : x ∈ prs u v ↔ x.1 ∈ u ∧ x.2 ∈ v := by
  unfold prs
  simp only [List.mem_flatMap, List.mem_map]
  constructor
  · rintro ⟨p, h1, q, h2, rfl⟩; exact ⟨h1, h2⟩
  · rintro ⟨h1, h2⟩; exact ⟨x.1, h1, x.2, h2, rfl⟩
structure Ten (g : C) (t : Int) : Prop where
  c : check g = 0
  p : present g.ts t = true
theorem Ten.ten {g : C} {t : Int} (h : Ten g t) : 0 ≤ t ∧ t < 3 ∧ t.toNat < g.ts.length := by
  have h1 := pres_lt h.p
  have h2 := teams_len (check_zero h.c).2.2.1
  omega
theorem Ten.valid {g : C} {t : Int} (h : Ten g t) : validTeam g.l t (team g t) = true := by
  have h1 := h.ten
  have h2 := team_at h.c h1.2.2
  have h3 := h.p
  unfold present at h3
  simp only [Bool.and_eq_true, Bool.not_eq_true'] at h3
  rcases h2 with h2 | h2
  · exact absurd h2 (by rw [show (g.ts.getD t.toNat T.z) = g.ts.getD t.toNat T.z from rfl, h3.2]; decide)
  · rw [Int.toNat_of_nonneg h1.1] at h2; exact h2
theorem Ten.spot {g : C} {t : Int} (h : Ten g t) {p : Int} (hp : p ∈ spots (team g t)) : (0 ≤ p ∧ p < g.l.length) ∧ owner g p = t := by
  have h1 := h.valid
  unfold validTeam at h1
  simp only [Bool.and_eq_true, List.all_eq_true] at h1
  have h2 := h1.1.2 p hp
  unfold ownAt at h2
  simp only [Bool.and_eq_true, decide_eq_true_eq] at h2
  refine ⟨h2.1, ?_⟩
  rw [owner_on h.c h2.1]
  have h3 := h.ten
  have h4 := Fl.okc_at (check_zero h.c).1 (j := p.toNat) (by omega)
  have h5 := h2.2
  rw [Fl.own_iff ⟨h3.1, h3.2.1⟩ h4] at h5
  exact of_decide_eq_true h5
theorem Ten.small {g : C} {t : Int} (h : Ten g t) : (1 ≤ (team g t).h.length ∧ (team g t).h.length ≤ 3) ∧ (1 ≤ (team g t).p.length ∧ (team g t).p.length ≤ 3) ∧ (1 ≤ (team g t).d.length ∧ (team g t).d.length ≤ 3) := by
  have h1 := h.valid
  unfold validTeam at h1
  simp only [Bool.and_eq_true] at h1
  exact numbers_len h1.1.1
theorem Ten.nums {g : C} {t : Int} (h : Ten g t) : (1 ≤ (team g t).n1 ∧ (team g t).n1 ≤ 8) ∧ (1 ≤ (team g t).n2 ∧ (team g t).n2 ≤ 8) ∧ (1 ≤ (team g t).n3 ∧ (team g t).n3 ≤ 8) := by
  have h1 := h.valid
  unfold validTeam numbers lims btw at h1
  simp only [Bool.and_eq_true, List.all_cons, decide_eq_true_eq] at h1
  omega
theorem Ten.leg {g : C} {t : Int} (h : Ten g t) {x : Int × Int} (hx : x ∈ legs (team g t)) : Leg g t x.1 x.2 := by
  have hs : x.1 ∈ spots (team g t) ∧ x.2 ∈ spots (team g t) := by
    unfold legs at hx
    simp only [List.mem_append, prs_mem] at hx
    unfold spots
    simp only [List.mem_append]
    rcases hx with (⟨h1, h2⟩ | ⟨h1, h2⟩) | ⟨h1, h2⟩ <;> simp [h1, h2]
  obtain ⟨h1, h2⟩ := h.spot hs.1
  obtain ⟨h3, h4⟩ := h.spot hs.2
  exact ⟨h.c, h.p, h1, h3, h4, .inl h2⟩
theorem Ten.legs_len {g : C} {t : Int} (h : Ten g t) : (legs (team g t)).length ≤ 27 := by
  obtain ⟨h1, h2, h3⟩ := h.small
  unfold legs
  simp only [List.length_append, prs_len]
  have a := Nat.mul_le_mul h1.2 h2.2
  have b := Nat.mul_le_mul h2.2 h3.2
  have c := Nat.mul_le_mul h3.2 h1.2
  omega
/-- the arrivals of a leg, tick by tick. -/
noncomputable def rowOf (g : C) (t : Int) (x : Int × Int) : List Int := tbl (Bf.arr (G g t x.1 x.2)) x.1.toNat g.s.length
noncomputable def vals (g : C) (t : Int) (i k : Nat) : List Int := ((legs (team g t)).take i).flatMap (rowOf g t) ++ (rowOf g t ((legs (team g t)).getD i (0, 0))).take k
def mxl (l : List Int) : Int := l.foldl (fun m v => if m < v then v else m) 0
noncomputable def most (g : C) (t : Int) : Int := if ((legs (team g t)).flatMap (rowOf g t)).any (fun v => decide (v < 0)) then -1 else mxl ((legs (team g t)).flatMap (rowOf g t))
theorem mxl_snoc (l : List Int) (v : Int) : mxl (l ++ [v]) = if mxl l < v then v else mxl l := by unfold mxl; rw [List.foldl_append]; rfl
theorem row_len (g : C) (t : Int) (x : Int × Int) : (rowOf g t x).length = g.s.length := by simp [rowOf, tbl_len]
theorem row_at {g : C} {t : Int} {x : Int × Int} {k : Nat} (hk : k < g.s.length) : (rowOf g t x)[k]? = some (Bf.arr (G g t x.1 x.2) k x.1.toNat) := by simp [rowOf, tbl, hk]
theorem vals_zero (g : C) (t : Int) : vals g t 0 0 = [] := by simp [vals]
theorem vals_step {g : C} {t : Int} {i k : Nat} (hk : k < g.s.length) : vals g t i (k + 1) = vals g t i k ++ [Bf.arr (G g t ((legs (team g t)).getD i (0, 0)).1 ((legs (team g t)).getD i (0, 0)).2) k ((legs (team g t)).getD i (0, 0)).1.toNat] := by
  unfold vals
  rw [List.take_add_one, row_at hk, Option.toList_some, List.append_assoc]
theorem vals_row {g : C} {t : Int} {i k : Nat} (hi : i < (legs (team g t)).length) (hk : g.s.length ≤ k) : vals g t i k = vals g t (i + 1) 0 := by
  unfold vals
  rw [show (rowOf g t ((legs (team g t)).getD i (0, 0))).take k = rowOf g t ((legs (team g t)).getD i (0, 0)) from List.take_of_length_le (by rw [row_len]; exact hk), List.take_zero, List.append_nil, List.take_add_one, List.getElem?_eq_getElem hi, Option.toList_some, List.flatMap_append]
  simp [List.getD, hi]
theorem vals_all {g : C} {t : Int} {i : Nat} (hi : (legs (team g t)).length ≤ i) : vals g t i 0 = (legs (team g t)).flatMap (rowOf g t) := by
  unfold vals; rw [List.take_of_length_le hi, List.take_zero, List.append_nil]
theorem vals_mem {g : C} {t : Int} {i k : Nat} (hi : i < (legs (team g t)).length) (hk : k < g.s.length) : Bf.arr (G g t ((legs (team g t)).getD i (0, 0)).1 ((legs (team g t)).getD i (0, 0)).2) k ((legs (team g t)).getD i (0, 0)).1.toNat ∈ (legs (team g t)).flatMap (rowOf g t) := by
  refine List.mem_flatMap.2 ⟨(legs (team g t)).getD i (0, 0), by rw [List.getD_eq_getElem?_getD, List.getElem?_eq_getElem hi, Option.getD_some]; exact List.getElem_mem _, ?_⟩
  exact List.mem_of_getElem? (row_at hk)
theorem most_neg {g : C} {t v : Int} (hm : v ∈ (legs (team g t)).flatMap (rowOf g t)) (hv : v < 0) : most g t = -1 := if_pos (List.any_eq_true.2 ⟨v, hm, decide_eq_true hv⟩)
theorem most_pos {g : C} {t : Int} (h : ∀ v ∈ (legs (team g t)).flatMap (rowOf g t), 0 ≤ v) : most g t = mxl ((legs (team g t)).flatMap (rowOf g t)) := by
  refine if_neg fun h2 => ?_
  obtain ⟨v, h3, h4⟩ := List.any_eq_true.1 h2
  have := h v h3
  have := of_decide_eq_true h4
  omega
theorem legs_at {m : T} {i : Nat} (hi : i < (legs m).length) : (legs m).getD i (0, 0) ∈ legs m := by
  rw [List.getD_eq_getElem?_getD, List.getElem?_eq_getElem hi, Option.getD_some]; exact List.getElem_mem _
noncomputable def soundR (g : C) : Int := if check g = 0 then (if (tenants g.ts g.ts.length).all (fun t => decide (0 ≤ most g t)) then 0 else 130) else check g
noncomputable def longestR (g : C) (t : Int) : Int × Int := if asked g t 0 = 0 then (if soundR g = 0 then (most g t, 0) else (0, soundR g)) else (0, asked g t 0)
def bd (m : T) (n : Int) : Int := (m.n3 + m.h.length + 1) * (4 * m.h.length + 8) * (n + m.n1 + m.n2 + 4)
noncomputable def boundR (g : C) (t : Int) : Int × Int := if (longestR g t).2 = 0 then (bd (team g t) (longestR g t).1, 0) else (0, (longestR g t).2)
theorem mxl_b {b : Int} (hb : 0 ≤ b) : ∀ {l : List Int}, (∀ v ∈ l, v ≤ b) → 0 ≤ mxl l ∧ mxl l ≤ b := by
  have key : ∀ (l : List Int) (m : Int), 0 ≤ m → m ≤ b → (∀ v ∈ l, v ≤ b) → 0 ≤ l.foldl (fun m v => if m < v then v else m) m ∧ l.foldl (fun m v => if m < v then v else m) m ≤ b := by
    intro l
    induction l with
    | nil => intro m h1 h2 _; exact ⟨h1, h2⟩
    | cons a r ih =>
      intro m h1 h2 h3
      rw [List.foldl_cons]
      have := h3 a (by simp)
      refine ih _ ?_ ?_ fun v hv => h3 v (by simp [hv])
      · split <;> omega
      · split <;> omega
  intro l h
  exact key l 0 (Int.le_refl _) hb h
theorem most_b {g : C} {t : Int} (h : Ten g t) : -1 ≤ most g t ∧ most g t ≤ 1024 := by
  unfold most
  split
  · omega
  · have := mxl_b (b := 1024) (by omega) (l := (legs (team g t)).flatMap (rowOf g t)) fun v hv => by
      obtain ⟨x, h1, h2⟩ := List.mem_flatMap.1 hv
      unfold rowOf tbl at h2
      obtain ⟨k, h3, rfl⟩ := List.mem_map.1 h2
      have hL := h.leg h1
      have hk := List.mem_range.1 h3
      have := arr_le (tick := (k : Int)) hL
      unfold arrv at this
      rw [ph_nat k hk] at this
      exact this
    omega
theorem asked_ten {g : C} {t tick : Int} (h : asked g t tick = 0) : Ten g t := by
  unfold asked at h
  split at h
  · rename_i hc
    split at h
    · rename_i hp; exact ⟨hc, hp.1⟩
    · exact absurd h (by decide)
  · rename_i hc; exact absurd h hc
theorem ten_of {g : C} (h : check g = 0) {i : Nat} (hi : i < (tenants g.ts g.ts.length).length) : Ten g ((tenants g.ts g.ts.length).getD i 0) := by
  have hm := getD_mem hi
  generalize (tenants g.ts g.ts.length).getD i 0 = t at *
  unfold tenants at hm
  obtain ⟨q, h1, rfl⟩ := List.mem_map.1 hm
  exact ⟨h, (List.mem_filter.1 h1).2⟩
theorem sound_bad {g : C} (h : ¬ check g = 0) : soundR g = check g := if_neg h
theorem sound_no {g : C} (h : check g = 0) {i : Nat} (hi : i < (tenants g.ts g.ts.length).length) (hm : most g ((tenants g.ts g.ts.length).getD i 0) < 0) : soundR g = 130 := by
  refine (if_pos h).trans (if_neg fun h2 => ?_)
  have := List.all_eq_true.1 h2 _ (getD_mem hi)
  have := of_decide_eq_true this
  omega
theorem sound_yes {g : C} (h : check g = 0) (hm : ∀ i, i < (tenants g.ts g.ts.length).length → 0 ≤ most g ((tenants g.ts g.ts.length).getD i 0)) : soundR g = 0 := by
  refine (if_pos h).trans (if_pos (List.all_eq_true.2 fun t ht => ?_))
  obtain ⟨i, hi, rfl⟩ := List.getElem_of_mem ht
  have := hm i hi
  rw [List.getD_eq_getElem?_getD, List.getElem?_eq_getElem hi, Option.getD_some] at this
  exact decide_eq_true this
theorem nn_app {l : List Int} {v : Int} (h : ∀ x ∈ l, 0 ≤ x) (hv : 0 ≤ v) : ∀ x ∈ l ++ [v], 0 ≤ x := fun x hx => by
  rcases List.mem_append.1 hx with h1 | h1
  · exact h x h1
  · rw [List.mem_singleton.1 h1]; exact hv
theorem mulc {a b x y : Int} (ha : 0 ≤ a ∧ a ≤ x) (hb : 0 ≤ b ∧ b ≤ y) : 0 ≤ a * b ∧ a * b ≤ x * y := ⟨Int.mul_nonneg ha.1 hb.1, Int.mul_le_mul ha.2 hb.2 hb.1 (by omega)⟩
theorem bd_parts {m : T} {n : Int} (h : m.h.length ≤ 3) (h3 : 1 ≤ m.n3 ∧ m.n3 ≤ 8) : 0 ≤ (m.n3 + (m.h.length : Int) + 1) * (4 * (m.h.length : Int) + 8) ∧ (m.n3 + (m.h.length : Int) + 1) * (4 * (m.h.length : Int) + 8) ≤ 12 * 20 := mulc (by omega) (by omega)
theorem mulb {a b : Int} (ha : 0 ≤ a ∧ a ≤ 1000000) (hb : 0 ≤ b ∧ b ≤ 1000000) : -9223372036854775808 ≤ a * b ∧ a * b ≤ 9223372036854775807 := by
  have h1 : 0 ≤ a * b := Int.mul_nonneg ha.1 hb.1
  have h2 : a * b ≤ 1000000 * 1000000 := Int.mul_le_mul ha.2 hb.2 hb.1 (by omega)
  omega
theorem long_ten {g : C} {t : Int} (h : (longestR g t).2 = 0) : Ten g t ∧ (longestR g t).1 = most g t := by
  unfold longestR at *
  by_cases h1 : asked g t 0 = 0
  · rw [if_pos h1] at h ⊢
    by_cases h2 : soundR g = 0
    · rw [if_pos h2]; exact ⟨asked_ten h1, rfl⟩
    · rw [if_neg h2] at h; exact absurd h h2
  · rw [if_neg h1] at h; exact absurd h h1
end Rt
namespace E
open Go Go.RowKit
theorem pairs_append (a b : List (Int × Int)) : pairs (a ++ b) = pairs a ++ pairs b := by
  induction a with
  | nil => rfl
  | cons x r ih => simp only [List.cons_append, pairs, ih]
theorem lgs_snoc (B T Et : Nat) (A : Option Addr) (c : Nat) (X : List (Int × Int)) (p q : Int) :
    [HP.blk B T [.slice A (X.length + 1) c], HP.row Et 2 A (X.length + 1) c (pairs X ++ [.int .i64 p, .int .i64 q])] = [HP.blk B T [.slice A (X ++ [(p, q)]).length c], HP.row Et 2 A (X ++ [(p, q)]).length c (pairs (X ++ [(p, q)]))] := by
  rw [List.length_append, pairs_append]; rfl
end E
end Go.Proofs.Ytflkbabhbnmajaa

/- Closed facts on the program (printed by gen.py). -/
namespace Go.Proofs.Ytflkbabhbnmajaa
open Go Go.RowKit
set_option linter.unusedSimpArgs false
set_option linter.unusedVariables false
theorem bld30_0_1 (x0 : Int) (x1 : Int) (w : World) : (Instr.build 30 #[(0, .int .i64 x0), (1, .int .i64 x1)]).run Try.prog w = .ok (.agg #[.int .i64 x0, .int .i64 x1]) w := by kernel_rfl
theorem bsl44_1_0 (x0 : Int) (x1 : Int) (w : World) : (Instr.buildSlice 44 1 #[(0, .agg #[.int .i64 x0, .int .i64 x1])]).run Try.prog w = .ok (.slice (some ⟨w.heap.size, 0, none⟩) 1 1) (w.alloc (.cells #[.int .i64 x0, .int .i64 x1] 30)) := by kernel_rfl
theorem in30 : E.In Try.prog 30 (.agg #[.int .i64 0, .int .i64 0]) 2 16 := by unfold E.In; kernel_rfl
theorem in44 : E.In Try.prog 44 (.slice none 0 0) 1 24 := by unfold E.In; kernel_rfl
theorem na44 : E.Na Try.prog 44 := fun _ => by kernel_rfl
theorem nm67 : E.Nm Try.prog 67 := ⟨Try.f67, Try.func67, rfl, by kernel_rfl⟩
end Go.Proofs.Ytflkbabhbnmajaa

/- Walks (printed by gen.py). -/
namespace Go.Proofs.Ytflkbabhbnmajaa
open Go Go.RowKit
set_option linter.unusedSimpArgs false
set_option linter.unusedVariables false

set_option maxRecDepth 100000 in
theorem lg_ok (A1 : Option Addr) (c1 : Nat) (u1 : List Int) (A2 : Option Addr) (c2 : Nat) (u2 : List Int) (B : Nat) (A : Option Addr) (e : Nat) (L : List (Int × Int)) (S : Nat → Prop) (w0 : World) (hS : (E.HP.bag [E.HP.blk B 44 [.slice A (L).length e], E.HP.row 30 2 A (L).length e (E.pairs (L))]).sem S w0) (hb : ∀ k, S k → k < w0.heap.size) (hX : E.Rd w0 (E.Fm w0 S) A1 (E.ints u1)) (hY : E.Rd w0 (E.Fm w0 S) A2 (E.ints u2)) (hu1 : u1.length ≤ 3) (hu2 : u2.length ≤ 3) (hLl : L.length ≤ 100) :
    Calls Try.prog 67 #[.slice A1 u1.length c1, .slice A2 u2.length c2, .pointer (some ⟨B, 0, none⟩)] w0 (E.Post w0 (E.Fm w0 S) fun v Hn => ∃ A3 e3, Hn = [E.HP.blk B 44 [.slice A3 (L ++ Rt.prs u1 u2).length e3], E.HP.row 30 2 A3 (L ++ Rt.prs u1 u2).length e3 (E.pairs (L ++ Rt.prs u1 u2))]) := by
  refine E.calls_of (vs := [.slice A1 u1.length c1, .slice A2 u2.length c2, .pointer (some ⟨B, 0, none⟩)]) (H := [E.HP.bag [E.HP.blk B 44 [.slice A (L).length e], E.HP.row 30 2 A (L).length e (E.pairs (L))]]) Try.func67 Try.ntmps67 rfl rfl (E.HA.startM hS hb) ?_
  refine E.CW.seq ?_
  refine E.CW.open 0 rfl ?_
  refine E.CW.region ?_
  refine E.OW.pure rfl rfl rfl (E.PV.move rfl rfl) ?_
  refine E.OW.pure rfl rfl rfl (E.PV.len Try.underlying31 rfl rfl) ?_
  refine E.OW.pure rfl rfl rfl (E.PV.move rfl rfl) ?_
  refine E.OW.nil ?_
  refine E.then_n ?_
  refine E.CW.block ?_
  refine E.CW.loopk [1, 2, 9, 10] 2 rfl rfl (fun mm mods Hm => ∃ i : Nat, ∃ A : Option Addr, ∃ e : Nat, mm = u1.length - i ∧ mods = [(11, .int .i64 i)] ∧ Hm = [E.HP.blk B 44 [.slice A (L ++ Rt.prs (u1.take i) u2).length e], E.HP.row 30 2 A (L ++ Rt.prs (u1.take i) u2).length e (E.pairs (L ++ Rt.prs (u1.take i) u2))] ∧ i ≤ u1.length) (u1.length) ?_ ?_
  · exact ⟨[(11, _)], (by repeat (first | exact E.cov_nil | refine ⟨rfl, ?_⟩)), 0, A, e, rfl, rfl, (by simp [Rt.prs]), by omega⟩
  · rintro _ _ _ ⟨i, A, e, rfl, rfl, rfl, hi⟩
    refine E.CW.seq ?_
    refine E.CW.region ?_
    refine E.OW.pure rfl rfl rfl (E.PV.lss rfl rfl rfl) ?_
    refine E.OW.nil ?_
    refine E.then_n ?_
    refine E.CW.seq ?_
    refine E.CW.cond rfl (fun hc => ?_) (fun hc => ?_)
    · simp only [E.b0, E.b1, E.b2, E.b3, E.b4, E.b5, E.b6, E.b7, E.b8, E.b9, E.b10, E.b11, E.b12, E.b13, E.b14, E.b15, E.b16, E.b17, E.b18, E.b19, E.b20, reduceCtorEq] at hc
      all_goals (
        refine E.CW.skip ?_
        refine E.then_n ?_
        refine E.CW.seq ?_
        refine E.CW.block ?_
        refine E.CW.seq ?_
        refine E.CW.region ?_
        refine E.OW.pure rfl rfl rfl (E.PV.indexAddr1 (E.rdc hX) Try.underlying31 in3 rfl rfl rfl rfl ?_ ?_) ?_; (focus (first | (simp; done) | (simp; omega))); (focus (omega))
        refine E.OW.pure rfl rfl rfl (E.PV.load_int (E.rdc hX) na3 rfl rfl ?_) ?_; (focus (omega))
        refine E.OW.pure rfl rfl rfl (E.PV.assign rfl rfl) ?_
        refine E.OW.nil ?_
        refine E.then_n ?_
        refine E.CW.seq ?_
        refine E.CW.region ?_
        refine E.OW.pure rfl rfl rfl (E.PV.move rfl rfl) ?_
        refine E.OW.pure rfl rfl rfl (E.PV.len Try.underlying31 rfl rfl) ?_
        refine E.OW.pure rfl rfl rfl (E.PV.move rfl rfl) ?_
        refine E.OW.nil ?_
        refine E.then_n ?_
        refine E.CW.block ?_
        refine E.CW.loopk [1, 2, 6, 9, 10, 11, 15, 16] 2 rfl rfl (fun mm mods Hm => ∃ j : Nat, ∃ A : Option Addr, ∃ e : Nat, mm = u2.length - j ∧ mods = [(17, .int .i64 j)] ∧ Hm = [E.HP.blk B 44 [.slice A ((L ++ Rt.prs (u1.take i) u2) ++ (u2.take j).map fun q => (u1.getD i 0, q)).length e], E.HP.row 30 2 A ((L ++ Rt.prs (u1.take i) u2) ++ (u2.take j).map fun q => (u1.getD i 0, q)).length e (E.pairs ((L ++ Rt.prs (u1.take i) u2) ++ (u2.take j).map fun q => (u1.getD i 0, q)))] ∧ j ≤ u2.length) (u2.length) ?_ ?_
        · exact ⟨[(17, _)], (by repeat (first | exact E.cov_nil | refine ⟨rfl, ?_⟩)), 0, A, e, rfl, rfl, (by simp), by omega⟩
        · rintro _ _ _ ⟨j, A, e, rfl, rfl, rfl, hj⟩
          have hpl := Rt.prs_len (u1.take i) u2
          have hti : (u1.take i).length = i := by rw [List.length_take]; omega
          rw [hti] at hpl
          have hmul := Nat.mul_le_mul (show i ≤ 3 by omega) hu2
          have htj : ((u2.take j).map fun q => (u1.getD i 0, q)).length = j := by rw [List.length_map, List.length_take]; omega
          have hXl : ((L ++ Rt.prs (u1.take i) u2) ++ (u2.take j).map fun q => (u1.getD i 0, q)).length = L.length + (Rt.prs (u1.take i) u2).length + j := by rw [List.length_append, List.length_append, htj]
          refine E.CW.seq ?_
          refine E.CW.region ?_
          refine E.OW.pure rfl rfl rfl (E.PV.lss rfl rfl rfl) ?_
          refine E.OW.nil ?_
          refine E.then_n ?_
          refine E.CW.seq ?_
          refine E.CW.cond rfl (fun hc => ?_) (fun hc => ?_)
          · simp only [E.b0, E.b1, E.b2, E.b3, E.b4, E.b5, E.b6, E.b7, E.b8, E.b9, E.b10, E.b11, E.b12, E.b13, E.b14, E.b15, E.b16, E.b17, E.b18, E.b19, E.b20, reduceCtorEq] at hc
            all_goals (
              refine E.CW.skip ?_
              refine E.then_n ?_
              refine E.CW.seq ?_
              refine E.CW.block ?_
              refine E.CW.seq ?_
              refine E.CW.region ?_
              refine E.OW.pure rfl rfl rfl (E.PV.indexAddr1 (E.rdc hY) Try.underlying31 in3 rfl rfl rfl rfl ?_ ?_) ?_; (focus (first | (simp; done) | (simp; omega))); (focus (omega))
              refine E.OW.pure rfl rfl rfl (E.PV.load_int (E.rdc hY) na3 rfl rfl ?_) ?_; (focus (omega))
              refine E.OW.pure rfl rfl rfl (E.PV.assign rfl rfl) ?_
              refine E.OW.nil ?_
              refine E.then_n ?_
              refine E.CW.region ?_
              refine E.OW.pure rfl rfl rfl (E.PV.load (i := 0) na44 rfl rfl rfl rfl) ?_
              refine E.OW.pure rfl rfl rfl (E.PV.move rfl rfl) ?_
              refine E.OW.pure rfl rfl rfl (E.PV.move rfl rfl) ?_
              refine E.OW.pure rfl rfl rfl (E.PV.build (ps := [(0, .tmp 22), (1, .tmp 23)]) rfl rfl (fun w => bld30_0_1 _ _ w)) ?_
              refine E.OW.buildSlice (Et := 30) (sz := 2) (ps := [(0, .tmp 24)]) rfl rfl rfl rfl rfl (by simp) (by unfold maxLen; omega) (fun w => bsl44_1_0 _ _ w) (fun A1 => ?_)
              refine E.OW.append (i := 2) Try.underlying44 in30 rfl rfl (by decide) rfl rfl rfl rfl rfl rfl rfl (E.rdr (i := 0) rfl) ?_ ?_ ?_ ?_ (fun A2 c2 => ?_); (focus ((first | rfl | (simp; done) | omega))); (focus ((first | exact E.ints_one | exact E.u8s_one | (simp [Value.oneCell']; done)))); (focus ((unfold maxLen; omega))); (focus ((first | omega | (simp only [List.length_append, List.length_cons, List.length_nil] at *; omega) | (unfold maxLen at *; omega))))
              refine E.OW.store (i := 2) in44.size rfl rfl rfl rfl rfl rfl rfl rfl rfl ?_
              refine E.OW.nil ?_
              refine E.blk_n ?_
              refine E.then_n ?_
              refine E.CW.region ?_
              refine E.OW.pure rfl rfl rfl (E.PV.add_i64 rfl rfl rfl ?_) ?_; (focus (omega))
              refine E.OW.pure rfl rfl rfl (E.PV.move rfl rfl) ?_
              refine E.OW.nil ?_
              refine E.then_nf ?_
              refine ⟨_, [(17, _)], [0, 0], [_, _], ?_, by repeat (first | exact E.cov_nil | refine ⟨rfl, ?_⟩), rfl, j + 1, _, _, rfl, rfl, (by rw [Rt.map_snoc (by omega), ← E.lgs_snoc]), by omega⟩
              omega)
          · simp only [E.b0, E.b1, E.b2, E.b3, E.b4, E.b5, E.b6, E.b7, E.b8, E.b9, E.b10, E.b11, E.b12, E.b13, E.b14, E.b15, E.b16, E.b17, E.b18, E.b19, E.b20, reduceCtorEq] at hc
            all_goals (
              refine E.CW.exit ?_
              refine E.then_x ?_
              refine E.then_x ?_
              refine E.blk_eq ?_
              refine E.blk_n ?_
              refine E.then_n ?_
              refine E.CW.region ?_
              refine E.OW.pure rfl rfl rfl (E.PV.add_i64 rfl rfl rfl ?_) ?_; (focus (omega))
              refine E.OW.pure rfl rfl rfl (E.PV.move rfl rfl) ?_
              refine E.OW.nil ?_
              refine E.then_nf ?_
              refine ⟨_, [(11, _)], [0, 0], [_, _], ?_, by repeat (first | exact E.cov_nil | refine ⟨rfl, ?_⟩), rfl, i + 1, _, _, rfl, rfl, (by rw [show u2.take j = u2 from List.take_of_length_le (by omega), Rt.prs_succ (by omega), ← List.append_assoc]), by omega⟩
              omega))
    · simp only [E.b0, E.b1, E.b2, E.b3, E.b4, E.b5, E.b6, E.b7, E.b8, E.b9, E.b10, E.b11, E.b12, E.b13, E.b14, E.b15, E.b16, E.b17, E.b18, E.b19, E.b20, reduceCtorEq] at hc
      all_goals (
        refine E.CW.exit ?_
        refine E.then_x ?_
        refine E.then_x ?_
        refine E.blk_eq ?_
        refine (E.KR.zero [0, 0] Try.results67 rfl ?_).1
        obtain rfl : i = u1.length := by omega
        rw [List.take_length]
        exact ⟨_, _, rfl⟩)

set_option maxRecDepth 100000 in
theorem Lg_ok (g : E.Cfg) (t : Int) (w0 : World) (hg : g.rd w0 (E.Old w0)) (hgf : g.q.fit) :
    Calls Try.prog 25 #[g.v, .int .i64 t] w0 (E.Post w0 (E.Old w0) fun v Hn => ∃ A2 c2, v = .tuple #[.slice A2 (Rt.legsR g.q t).1.length c2, .int .i64 (Rt.legsR g.q t).2] ∧ Hn = [E.HP.row 30 2 A2 (Rt.legsR g.q t).1.length c2 (E.pairs (Rt.legsR g.q t).1)]) := by
  obtain ⟨hX1, hX2, hX3, hX4⟩ := id hg
  have hgl := E.Cfg.fit_len hgf
  refine E.calls_of (vs := [g.v, .int .i64 t]) (H := []) Try.func25 Try.ntmps25 rfl rfl (E.HA.start w0) ?_
  refine E.CW.seq ?_
  refine E.CW.region ?_
  refine E.OW.box rfl rfl rfl rfl rfl rfl (fun B1 => ?_)
  refine E.OW.pure rfl rfl rfl (E.PV.assign rfl rfl) ?_
  refine E.OW.pure rfl rfl rfl (E.PV.assign rfl rfl) ?_
  refine E.OW.nil ?_
  refine E.then_n ?_
  refine E.CW.seq ?_
  refine E.CW.seq ?_
  refine E.CW.region ?_
  refine E.OW.pure rfl rfl rfl (E.PV.loads (i := 0) is28 rfl rfl rfl rfl) ?_
  refine E.OW.pure rfl rfl rfl (E.PV.move rfl rfl) ?_
  (refine E.OW.call nm66 rfl rfl rfl rfl rfl rfl _ (fun w hw => Ask_ok g t 0 w ?_ ?_ ?_) ?_; (focus (refine hw.rdC ?_; assumption)); (focus (assumption)); (focus (omega)); rintro _ _ ⟨rfl, rfl⟩)
  refine E.OW.pure rfl rfl rfl (E.PV.assign rfl rfl) ?_
  refine E.OW.nil ?_
  refine E.then_n ?_
  refine E.CW.seq ?_
  refine E.CW.region ?_
  refine E.OW.pure rfl rfl rfl (E.PV.move rfl rfl) ?_
  refine E.OW.pure rfl rfl rfl (E.PV.neq rfl rfl rfl) ?_
  refine E.OW.nil ?_
  refine E.then_n ?_
  refine E.CW.cond rfl (fun hc => ?_) (fun hc => ?_)
  · simp only [E.b0, E.b1, E.b2, E.b3, E.b4, E.b5, E.b6, E.b7, E.b8, E.b9, E.b10, E.b11, E.b12, E.b13, E.b14, E.b15, E.b16, E.b17, E.b18, E.b19, E.b20, reduceCtorEq] at hc
    all_goals (
      refine E.CW.seq ?_
      refine E.CW.nilrow 30 2 ?_
      refine E.CW.region ?_
      refine E.OW.pure rfl rfl rfl (E.PV.move rfl rfl) ?_
      refine E.OW.pure rfl rfl rfl (E.PV.assign rfl rfl) ?_
      refine E.OW.pure rfl rfl rfl (E.PV.assign rfl rfl) ?_
      refine E.OW.nil ?_
      refine E.then_n ?_
      refine E.CW.ret ?_
      refine E.then_ret ?_
      refine E.KR.two [0] Try.results25 rfl rfl rfl ?_
      rw [show Rt.legsR g.q t = ([], Rt.asked g.q t 0) from if_neg (by assumption)]
      exact ⟨none, 0, rfl, rfl⟩)
  · simp only [E.b0, E.b1, E.b2, E.b3, E.b4, E.b5, E.b6, E.b7, E.b8, E.b9, E.b10, E.b11, E.b12, E.b13, E.b14, E.b15, E.b16, E.b17, E.b18, E.b19, E.b20, reduceCtorEq] at hc
    all_goals (
      refine E.CW.skip ?_
      refine E.then_n ?_
      refine E.CW.seq ?_
      have hTn := Rt.asked_ten (show Rt.asked g.q t 0 = 0 by assumption)
      obtain ⟨ht0, ht3, htn⟩ := hTn.ten
      have htl : t.toNat < g.ts.length := by rw [← E.Cfg.ts_len g]; exact htn
      have hmt := hg.m _ (E.Tm.mem htl)
      have hsp : Rt.team g.q t = (g.ts.getD t.toNat E.Tm.z).q := E.Cfg.ts_getD g _
      obtain ⟨⟨_, h3h⟩, ⟨_, h3p⟩, ⟨_, h3d⟩⟩ := hTn.small
      rw [hsp] at h3h h3p h3d
      have hm1 := Nat.mul_le_mul h3h h3p
      have hm2 := Nat.mul_le_mul h3p h3d
      refine E.CW.region ?_
      refine E.OW.alloc (in44.zr) rfl rfl rfl rfl rfl (fun B2 => ?_)
      refine E.OW.nil ?_
      refine E.then_n ?_
      refine E.CW.seq ?_
      refine E.CW.nilrow 30 2 ?_
      refine E.CW.region ?_
      refine E.OW.pure rfl rfl rfl (E.PV.makeFunc (f := .func 67) (fs := []) (cs := [.tmp 7]) rfl rfl rfl) ?_
      refine E.OW.pure rfl rfl rfl (E.PV.assign rfl rfl) ?_
      refine E.OW.nil ?_
      refine E.then_n ?_
      refine E.CW.seq ?_
      refine E.CW.region ?_
      refine E.OW.pure rfl rfl rfl (E.PV.fieldAddr fa28_2 rfl rfl) ?_
      refine E.OW.pure rfl rfl rfl (E.PV.load (i := 2) na25 rfl rfl rfl rfl) ?_
      refine E.OW.pure rfl rfl rfl (E.PV.move rfl rfl) ?_
      refine E.OW.pure rfl rfl rfl (E.PV.indexAddr (E.rdc hX3) Try.underlying25 in79 rfl rfl rfl (E.tn ?_) ?_ ?_ (by decide)) ?_; (focus (omega)); (focus (first | (simp; done) | (simp; omega))); (focus (omega))
      refine E.OW.pure rfl rfl rfl (E.PV.load_tm (E.rdc hX3) is79 rfl rfl ?_) ?_; (focus (omega))
      refine E.OW.alloc (in79.zr) rfl rfl rfl rfl rfl (fun B3 => ?_)
      refine E.OW.store (i := 0) in79.size rfl rfl rfl rfl rfl rfl rfl rfl rfl ?_
      refine E.OW.nil ?_
      refine E.then_n ?_
      refine E.CW.seq ?_
      refine E.CW.gather [2, 1, 0, 0] 2 rfl rfl ?_
      refine E.CW.region ?_
      refine E.OW.pure rfl rfl rfl (E.PV.move rfl rfl) ?_
      refine E.OW.pure rfl rfl rfl (E.PV.fieldAddr fa79_0 rfl rfl) ?_
      refine E.OW.pure rfl rfl rfl (E.PV.load (i := 1) na31 rfl rfl rfl rfl) ?_
      refine E.OW.pure rfl rfl rfl (E.PV.fieldAddr fa79_1 rfl rfl) ?_
      refine E.OW.pure rfl rfl rfl (E.PV.load (i := 1) na31 rfl rfl rfl rfl) ?_
      refine E.OW.callcM nm67 rfl rfl rfl rfl rfl rfl _ 0 rfl (fun w S hw hs hb hc => lg_ok _ _ (g.ts.getD t.toNat E.Tm.z).q.h _ _ (g.ts.getD t.toNat E.Tm.z).q.p B2 _ _ ([]) S w hs (fun k hk => (hb k hk).1) (hw.rdTM hmt hb).1 (hw.rdTM hmt hb).2.1 h3h h3p (by simp only [List.length_nil, List.length_append, Rt.prs_len]; omega)) ?_; rintro _ _ ⟨AL7, eL7, rfl⟩
      refine E.OW.nil ?_
      refine E.then_n ?_
      refine E.CW.seq ?_
      refine E.CW.gather [0, 0, 0, 0] 2 rfl rfl ?_
      refine E.CW.region ?_
      refine E.OW.pure rfl rfl rfl (E.PV.move rfl rfl) ?_
      refine E.OW.pure rfl rfl rfl (E.PV.fieldAddr fa79_1 rfl rfl) ?_
      refine E.OW.pure rfl rfl rfl (E.PV.load (i := 1) na31 rfl rfl rfl rfl) ?_
      refine E.OW.pure rfl rfl rfl (E.PV.fieldAddr fa79_2 rfl rfl) ?_
      refine E.OW.pure rfl rfl rfl (E.PV.load (i := 1) na31 rfl rfl rfl rfl) ?_
      refine E.OW.callcM nm67 rfl rfl rfl rfl rfl rfl _ 0 rfl (fun w S hw hs hb hc => lg_ok _ _ (g.ts.getD t.toNat E.Tm.z).q.p _ _ (g.ts.getD t.toNat E.Tm.z).q.d B2 _ _ ([] ++ Rt.prs (g.ts.getD t.toNat E.Tm.z).q.h (g.ts.getD t.toNat E.Tm.z).q.p) S w hs (fun k hk => (hb k hk).1) (hw.rdTM hmt hb).2.1 (hw.rdTM hmt hb).2.2 h3p h3d (by simp only [List.length_nil, List.length_append, Rt.prs_len]; omega)) ?_; rintro _ _ ⟨AL8, eL8, rfl⟩
      refine E.OW.nil ?_
      refine E.then_n ?_
      refine E.CW.seq ?_
      refine E.CW.gather [0, 0, 0, 0] 2 rfl rfl ?_
      refine E.CW.region ?_
      refine E.OW.pure rfl rfl rfl (E.PV.move rfl rfl) ?_
      refine E.OW.pure rfl rfl rfl (E.PV.fieldAddr fa79_2 rfl rfl) ?_
      refine E.OW.pure rfl rfl rfl (E.PV.load (i := 1) na31 rfl rfl rfl rfl) ?_
      refine E.OW.pure rfl rfl rfl (E.PV.fieldAddr fa79_0 rfl rfl) ?_
      refine E.OW.pure rfl rfl rfl (E.PV.load (i := 1) na31 rfl rfl rfl rfl) ?_
      refine E.OW.callcM nm67 rfl rfl rfl rfl rfl rfl _ 0 rfl (fun w S hw hs hb hc => lg_ok _ _ (g.ts.getD t.toNat E.Tm.z).q.d _ _ (g.ts.getD t.toNat E.Tm.z).q.h B2 _ _ ([] ++ Rt.prs (g.ts.getD t.toNat E.Tm.z).q.h (g.ts.getD t.toNat E.Tm.z).q.p ++ Rt.prs (g.ts.getD t.toNat E.Tm.z).q.p (g.ts.getD t.toNat E.Tm.z).q.d) S w hs (fun k hk => (hb k hk).1) (hw.rdTM hmt hb).2.2 (hw.rdTM hmt hb).1 h3d h3h (by simp only [List.length_nil, List.length_append, Rt.prs_len]; omega)) ?_; rintro _ _ ⟨AL9, eL9, rfl⟩
      refine E.OW.nil ?_
      refine E.then_n ?_
      refine E.CW.seq ?_
      refine E.CW.region ?_
      refine E.OW.pure rfl rfl rfl (E.PV.load (i := 0) na44 rfl rfl rfl rfl) ?_
      refine E.OW.pure rfl rfl rfl (E.PV.assign rfl rfl) ?_
      refine E.OW.pure rfl rfl rfl (E.PV.assign rfl rfl) ?_
      refine E.OW.nil ?_
      refine E.then_n ?_
      refine E.CW.ret ?_
      refine E.KR.two [1] Try.results25 rfl rfl rfl ?_
      rw [show Rt.legsR g.q t = ([] ++ Rt.prs (g.ts.getD t.toNat E.Tm.z).q.h (g.ts.getD t.toNat E.Tm.z).q.p ++ Rt.prs (g.ts.getD t.toNat E.Tm.z).q.p (g.ts.getD t.toNat E.Tm.z).q.d ++ Rt.prs (g.ts.getD t.toNat E.Tm.z).q.d (g.ts.getD t.toNat E.Tm.z).q.h, 0) from by rw [show Rt.legsR g.q t = (Rt.legs (Rt.team g.q t), 0) from if_pos (by assumption), hsp]; rfl]
      exact ⟨_, _, rfl, rfl⟩)
end Go.Proofs.Ytflkbabhbnmajaa

/- Closed facts on the program (printed by gen.py). -/
namespace Go.Proofs.Ytflkbabhbnmajaa
open Go Go.RowKit
set_option linter.unusedSimpArgs false
set_option linter.unusedVariables false
theorem nm25 : E.Nm Try.prog 25 := ⟨Try.f25, Try.func25, rfl, by kernel_rfl⟩
theorem nm42 : E.Nm Try.prog 42 := ⟨Try.f42, Try.func42, rfl, by kernel_rfl⟩
theorem nm43 : E.Nm Try.prog 43 := ⟨Try.f43, Try.func43, rfl, by kernel_rfl⟩
theorem nm55 : E.Nm Try.prog 55 := ⟨Try.f55, Try.func55, rfl, by kernel_rfl⟩
theorem nm88 : E.Nm Try.prog 88 := ⟨Try.f88, Try.func88, rfl, by kernel_rfl⟩
end Go.Proofs.Ytflkbabhbnmajaa

/- Walks (printed by gen.py). -/
namespace Go.Proofs.Ytflkbabhbnmajaa
open Go Go.RowKit
set_option linter.unusedSimpArgs false
set_option linter.unusedVariables false

set_option maxRecDepth 100000 in
theorem lo_ok (g : E.Cfg) (t : Int) (w0 : World) (hg : g.rd w0 (E.Old w0)) (hgf : g.q.fit) (hTn : Rt.Ten g.q t) :
    Calls Try.prog 88 #[g.v, .int .i64 t] w0 (E.Post w0 (E.Old w0) fun v Hn => v = .int .i64 (Rt.most g.q t) ∧ Hn = []) := by
  obtain ⟨hX1, hX2, hX3, hX4⟩ := id hg
  have hgl := E.Cfg.fit_len hgf
  have hlr : (Rt.legsR g.q t).1 = (Rt.legs (Rt.team g.q t)) := congrArg Prod.fst (show Rt.legsR g.q t = (Rt.legs (Rt.team g.q t), 0) from if_pos (Rt.asked_ok hTn.c hTn.p (by omega)))
  have hll := hTn.legs_len
  refine E.calls_of (vs := [g.v, .int .i64 t]) (H := []) Try.func88 Try.ntmps88 rfl rfl (E.HA.start w0) ?_
  refine E.CW.seq ?_
  refine E.CW.region ?_
  refine E.OW.box rfl rfl rfl rfl rfl rfl (fun B1 => ?_)
  refine E.OW.pure rfl rfl rfl (E.PV.assign rfl rfl) ?_
  refine E.OW.nil ?_
  refine E.then_n ?_
  refine E.CW.seq ?_
  refine E.CW.region ?_
  refine E.OW.pure rfl rfl rfl (E.PV.loads (i := 0) is28 rfl rfl rfl rfl) ?_
  refine E.OW.pure rfl rfl rfl (E.PV.move rfl rfl) ?_
  (refine E.OW.call nm25 rfl rfl rfl rfl rfl rfl _ (fun w hw => Lg_ok _ _ w ?_ ?_) ?_; (focus (refine hw.rdC ?_; assumption)); (focus (assumption)); rintro _ _ ⟨ALg, cLg, rfl, rfl⟩)
  refine E.OW.pure rfl rfl rfl (E.PV.move rfl rfl) ?_
  refine E.OW.pure rfl rfl rfl (E.PV.extract rfl rfl rfl) ?_
  refine E.OW.pure rfl rfl rfl (E.PV.extract rfl rfl rfl) ?_
  refine E.OW.pure rfl rfl rfl (E.PV.assign rfl rfl) ?_
  refine E.OW.pure rfl rfl rfl (E.PV.assign rfl rfl) ?_
  refine E.OW.nil ?_
  refine E.then_n ?_
  refine E.CW.seq ?_
  rw [hlr]
  refine E.CW.region ?_
  refine E.OW.pure rfl rfl rfl (E.PV.assign rfl rfl) ?_
  refine E.OW.nil ?_
  refine E.then_n ?_
  refine E.CW.seq ?_
  refine E.CW.seq ?_
  refine E.CW.region ?_
  refine E.OW.pure rfl rfl rfl (E.PV.move rfl rfl) ?_
  refine E.OW.pure rfl rfl rfl (E.PV.len Try.underlying44 rfl rfl) ?_
  refine E.OW.pure rfl rfl rfl (E.PV.move rfl rfl) ?_
  refine E.OW.nil ?_
  refine E.then_n ?_
  refine E.CW.block ?_
  refine E.CW.loopk [1, 2, 18, 19] 0 rfl rfl (fun mm mods Hm => ∃ i : Nat, mm = (Rt.legs (Rt.team g.q t)).length - i ∧ mods = [(20, .int .i64 i), (7, .int .i64 (Rt.mxl (Rt.vals g.q t i 0)))] ∧ Hm = [] ∧ (i ≤ (Rt.legs (Rt.team g.q t)).length ∧ ∀ v ∈ Rt.vals g.q t i 0, 0 ≤ v)) ((Rt.legs (Rt.team g.q t)).length) ?_ ?_
  · exact ⟨[(20, _), (7, _)], (by repeat (first | exact E.cov_nil | refine ⟨rfl, ?_⟩)), 0, rfl, (by rw [Rt.vals_zero]; rfl), rfl, by omega, fun v hv => by rw [Rt.vals_zero] at hv; cases hv⟩
  · rintro _ _ _ ⟨i, rfl, rfl, rfl, hi, hI⟩
    refine E.CW.seq ?_
    refine E.CW.region ?_
    refine E.OW.pure rfl rfl rfl (E.PV.lss rfl rfl rfl) ?_
    refine E.OW.nil ?_
    refine E.then_n ?_
    refine E.CW.seq ?_
    refine E.CW.cond rfl (fun hc => ?_) (fun hc => ?_)
    · simp only [E.b0, E.b1, E.b2, E.b3, E.b4, E.b5, E.b6, E.b7, E.b8, E.b9, E.b10, E.b11, E.b12, E.b13, E.b14, E.b15, E.b16, E.b17, E.b18, E.b19, E.b20, reduceCtorEq] at hc
      all_goals (
        refine E.CW.skip ?_
        refine E.then_n ?_
        refine E.CW.seq ?_
        refine E.CW.block ?_
        refine E.CW.seq ?_
        have hmem := Rt.legs_at (m := Rt.team g.q t) (i := i) (by omega)
        refine E.CW.region ?_
        refine E.OW.pure rfl rfl rfl (E.PV.indexAddr (E.rdr (i := 0) rfl) Try.underlying44 in30 rfl rfl rfl rfl ?_ ?_ (by decide)) ?_; (focus (first | (simp; done) | (simp; omega))); (focus (omega))
        refine E.OW.pure rfl rfl rfl (E.PV.load_pair (E.rdr (i := 0) rfl) is30 rfl rfl ?_) ?_; (focus (omega))
        refine E.OW.alloc (in30.zr) rfl rfl rfl rfl rfl (fun B2 => ?_)
        refine E.OW.store (i := 0) in30.size rfl rfl rfl rfl rfl rfl rfl rfl rfl ?_
        refine E.OW.nil ?_
        refine E.then_n ?_
        refine E.CW.seq ?_
        obtain ⟨x, hx⟩ : ∃ x, (Rt.legs (Rt.team g.q t)).getD i (0, 0) = x := ⟨_, rfl⟩
        rw [hx] at hmem ⊢
        have hL : Rt.Leg g.q t x.1 x.2 := hTn.leg hmem
        refine E.CW.region ?_
        refine E.OW.pure rfl rfl rfl (E.PV.loads (i := 2) is28 rfl rfl rfl rfl) ?_
        refine E.OW.pure rfl rfl rfl (E.PV.move rfl rfl) ?_
        refine E.OW.pure rfl rfl rfl (E.PV.loads (i := 0) is30 rfl rfl rfl rfl) ?_
        (refine E.OW.call nm59 rfl rfl rfl rfl rfl rfl _ (fun w hw => np_ok g t x.1 x.2 w ?_ ?_ ?_) ?_; (focus (refine hw.rdC ?_; assumption)); (focus (assumption)); (focus (assumption)); rintro _ _ ⟨yP, DP, rfl, rfl, hyx, hyD⟩)
        refine E.OW.pure rfl rfl rfl (E.PV.nilCheck rfl rfl) ?_
        refine E.OW.pure rfl rfl rfl (E.PV.fieldAddr fa93_3 rfl rfl) ?_
        refine E.OW.pure rfl rfl rfl (E.PV.load_at (E.p_b (E.sr0p (i := 0) rfl)) na91 rfl rfl rfl) ?_
        refine E.OW.pure rfl rfl rfl (E.PV.len Try.underlying91 rfl rfl) ?_
        refine E.OW.pure rfl rfl rfl (E.PV.move rfl rfl) ?_
        refine E.OW.nil ?_
        have hyn : yP.x.n = g.l.length := by rw [hyx]; rfl
        have hyK : yP.x.K = g.s.length := by rw [hyx]; rfl
        have hn64 : g.l.length ≤ 64 := Rt.len_le hL.c
        have hs16 : 1 ≤ g.s.length ∧ g.s.length ≤ 16 := Rt.per_of hL.c
        have hra : 0 ≤ x.1 ∧ x.1 < (g.l.length : Int) := hL.ra
        have hok : yP.x.ok := by rw [hyx]; exact Rt.G_ok hL
        refine E.then_n ?_
        refine E.CW.block ?_
        refine E.CW.loopk [1, 2, 9, 18, 19, 20, 30, 31] 0 rfl rfl (fun mm mods Hm => ∃ k : Nat, mm = yP.x.K - k ∧ mods = [(32, .int .i64 k), (7, .int .i64 (Rt.mxl (Rt.vals g.q t i k)))] ∧ Hm = [] ∧ (k ≤ yP.x.K ∧ ∀ v ∈ Rt.vals g.q t i k, 0 ≤ v)) (yP.x.K) ?_ ?_
        · exact ⟨[(32, _), (7, _)], (by repeat (first | exact E.cov_nil | refine ⟨rfl, ?_⟩)), 0, rfl, rfl, rfl, by omega, hI⟩
        · rintro _ _ _ ⟨k, rfl, rfl, rfl, hk, hJ⟩
          refine E.CW.seq ?_
          refine E.CW.region ?_
          refine E.OW.pure rfl rfl rfl (E.PV.lss rfl rfl rfl) ?_
          refine E.OW.nil ?_
          refine E.then_n ?_
          refine E.CW.seq ?_
          refine E.CW.cond rfl (fun hc => ?_) (fun hc => ?_)
          · simp only [E.b0, E.b1, E.b2, E.b3, E.b4, E.b5, E.b6, E.b7, E.b8, E.b9, E.b10, E.b11, E.b12, E.b13, E.b14, E.b15, E.b16, E.b17, E.b18, E.b19, E.b20, reduceCtorEq] at hc
            all_goals (
              refine E.CW.skip ?_
              refine E.then_n ?_
              refine E.CW.seq ?_
              refine E.CW.block ?_
              refine E.CW.seq ?_
              refine E.CW.region ?_
              refine E.OW.pure rfl rfl rfl (E.PV.indexAddr1 (E.p_d (E.sr0p (i := 0) rfl)) Try.underlying91 in31 rfl rfl rfl rfl ?_ ?_) ?_; (focus (first | (simp; done) | (simp; omega))); (focus (omega))
              refine E.OW.pure rfl rfl rfl (E.PV.load_sc (E.p_d (E.sr0p (i := 0) rfl)) na31 rfl rfl ?_) ?_; (focus (omega))
              refine E.OW.pure rfl rfl rfl (E.PV.assign rfl rfl) ?_
              refine E.OW.nil ?_
              refine E.then_n ?_
              refine E.CW.seq ?_
              refine E.CW.seq ?_
              have hD := Rt.plan_at hL hyx hyD (k := k) (by omega)
              have hvm := Rt.vals_mem (g := g.q) (t := t) (i := i) (k := k) (by omega) (show k < g.s.length by omega)
              rw [hx, ← hD] at hvm
              have hvs := Rt.vals_step (g := g.q) (t := t) (i := i) (k := k) (show k < g.s.length by omega)
              rw [hx, ← hD] at hvs
              refine E.CW.region ?_
              refine E.OW.pure rfl rfl rfl (E.PV.move rfl rfl) ?_
              refine E.OW.pure rfl rfl rfl (E.PV.fieldAddr fa30_0 rfl rfl) ?_
              refine E.OW.pure rfl rfl rfl (E.PV.load (i := 1) na3 rfl rfl rfl rfl) ?_
              refine E.OW.pure rfl rfl rfl (E.PV.indexAddr1 (E.p_dr (E.srdp (i := 0) rfl) ?_) Try.underlying31 in3 rfl rfl rfl (E.tn ?_) ?_ ?_) ?_; (focus (omega)); (focus (omega)); (focus (first | (simp; done) | (simp; omega))); (focus (omega))
              refine E.OW.pure rfl rfl rfl (E.PV.load_ii (E.p_dr (E.srdp (i := 0) rfl) ?_) na3 rfl rfl ?_) ?_; (focus (omega)); (focus (omega))
              refine E.OW.pure rfl rfl rfl (E.PV.lss rfl rfl rfl) ?_
              refine E.OW.nil ?_
              refine E.then_n ?_
              refine E.CW.cond rfl (fun hc => ?_) (fun hc => ?_)
              · simp only [E.b0, E.b1, E.b2, E.b3, E.b4, E.b5, E.b6, E.b7, E.b8, E.b9, E.b10, E.b11, E.b12, E.b13, E.b14, E.b15, E.b16, E.b17, E.b18, E.b19, E.b20, reduceCtorEq] at hc
                all_goals (
                  refine E.CW.seq ?_
                  refine E.CW.region ?_
                  refine E.OW.pure rfl rfl rfl (E.PV.assign rfl rfl) ?_
                  refine E.OW.nil ?_
                  refine E.then_n ?_
                  refine E.CW.ret ?_
                  refine E.then_ret ?_
                  refine E.blk_ret ?_
                  refine E.then_ret ?_
                  refine E.then_ret ?_
                  refine E.blk_ret ?_
                  refine E.blk_ret ?_
                  refine E.then_ret ?_
                  refine E.then_ret ?_
                  refine E.blk_ret ?_
                  refine E.then_ret ?_
                  refine E.KR.one [] Try.results88 rfl rfl ?_
                  exact ⟨by rw [Rt.most_neg hvm (by omega)], rfl⟩)
              · simp only [E.b0, E.b1, E.b2, E.b3, E.b4, E.b5, E.b6, E.b7, E.b8, E.b9, E.b10, E.b11, E.b12, E.b13, E.b14, E.b15, E.b16, E.b17, E.b18, E.b19, E.b20, reduceCtorEq] at hc
                all_goals (
                  refine E.CW.skip ?_
                  refine E.then_n ?_
                  refine E.CW.region ?_
                  refine E.OW.pure rfl rfl rfl (E.PV.move rfl rfl) ?_
                  refine E.OW.pure rfl rfl rfl (E.PV.move rfl rfl) ?_
                  refine E.OW.pure rfl rfl rfl (E.PV.fieldAddr fa30_0 rfl rfl) ?_
                  refine E.OW.pure rfl rfl rfl (E.PV.load (i := 1) na3 rfl rfl rfl rfl) ?_
                  refine E.OW.pure rfl rfl rfl (E.PV.indexAddr1 (E.p_dr (E.srdp (i := 0) rfl) ?_) Try.underlying31 in3 rfl rfl rfl (E.tn ?_) ?_ ?_) ?_; (focus (omega)); (focus (omega)); (focus (first | (simp; done) | (simp; omega))); (focus (omega))
                  refine E.OW.pure rfl rfl rfl (E.PV.load_ii (E.p_dr (E.srdp (i := 0) rfl) ?_) na3 rfl rfl ?_) ?_; (focus (omega)); (focus (omega))
                  refine E.OW.pure rfl rfl rfl (E.PV.max rfl rfl rfl) ?_
                  refine E.OW.pure rfl rfl rfl (E.PV.assign rfl rfl) ?_
                  refine E.OW.nil ?_
                  refine E.blk_n ?_
                  refine E.then_n ?_
                  refine E.CW.region ?_
                  refine E.OW.pure rfl rfl rfl (E.PV.add_i64 rfl rfl rfl ?_) ?_; (focus (omega))
                  refine E.OW.pure rfl rfl rfl (E.PV.move rfl rfl) ?_
                  refine E.OW.nil ?_
                  refine E.then_nf ?_
                  refine ⟨_, [(32, _), (7, _)], [0, 0, 0, 0], _, ?_, by repeat (first | exact E.cov_nil | refine ⟨rfl, ?_⟩), rfl, k + 1, rfl, (by rw [hvs, Rt.mxl_snoc]; rfl), rfl, by omega, (by rw [hvs]; exact Rt.nn_app hJ (by omega))⟩
                  omega))
          · simp only [E.b0, E.b1, E.b2, E.b3, E.b4, E.b5, E.b6, E.b7, E.b8, E.b9, E.b10, E.b11, E.b12, E.b13, E.b14, E.b15, E.b16, E.b17, E.b18, E.b19, E.b20, reduceCtorEq] at hc
            all_goals (
              refine E.CW.exit ?_
              refine E.then_x ?_
              refine E.then_x ?_
              refine E.blk_eq ?_
              refine E.blk_n ?_
              refine E.then_n ?_
              refine E.CW.region ?_
              refine E.OW.pure rfl rfl rfl (E.PV.add_i64 rfl rfl rfl ?_) ?_; (focus (omega))
              refine E.OW.pure rfl rfl rfl (E.PV.move rfl rfl) ?_
              refine E.OW.nil ?_
              refine E.then_nf ?_
              refine ⟨_, [(20, _), (7, _)], [2, 2], _, ?_, by repeat (first | exact E.cov_nil | refine ⟨rfl, ?_⟩), rfl, i + 1, rfl, (by rw [Rt.vals_row (by omega) (show g.q.s.length ≤ k by show g.s.length ≤ k; omega)]; rfl), rfl, by omega, (by rw [← Rt.vals_row (by omega) (show g.q.s.length ≤ k by show g.s.length ≤ k; omega)]; exact hJ)⟩
              omega))
    · simp only [E.b0, E.b1, E.b2, E.b3, E.b4, E.b5, E.b6, E.b7, E.b8, E.b9, E.b10, E.b11, E.b12, E.b13, E.b14, E.b15, E.b16, E.b17, E.b18, E.b19, E.b20, reduceCtorEq] at hc
      all_goals (
        refine E.CW.exit ?_
        refine E.then_x ?_
        refine E.then_x ?_
        refine E.blk_eq ?_
        refine E.then_n ?_
        refine E.CW.seq ?_
        refine E.CW.region ?_
        refine E.OW.pure rfl rfl rfl (E.PV.move rfl rfl) ?_
        refine E.OW.pure rfl rfl rfl (E.PV.assign rfl rfl) ?_
        refine E.OW.nil ?_
        refine E.then_n ?_
        refine E.CW.ret ?_
        refine E.KR.one [] Try.results88 rfl rfl ?_
        rw [Rt.vals_all (by omega)] at hI ⊢
        exact ⟨by rw [Rt.most_pos hI], rfl⟩)

set_option maxRecDepth 100000 in
theorem So_ok (g : E.Cfg) (w0 : World) (hg : g.rd w0 (E.Old w0)) (hgf : g.q.fit) :
    Calls Try.prog 42 #[g.v] w0 (E.Post w0 (E.Old w0) fun v Hn => v = .int .i64 (Rt.soundR g.q) ∧ Hn = []) := by
  obtain ⟨hX1, hX2, hX3, hX4⟩ := id hg
  have hgl := E.Cfg.fit_len hgf
  refine E.calls_of (vs := [g.v]) (H := []) Try.func42 Try.ntmps42 rfl rfl (E.HA.start w0) ?_
  refine E.CW.seq ?_
  refine E.CW.region ?_
  refine E.OW.box rfl rfl rfl rfl rfl rfl (fun B1 => ?_)
  refine E.OW.pure rfl rfl rfl (E.PV.assign rfl rfl) ?_
  refine E.OW.nil ?_
  refine E.then_n ?_
  refine E.CW.seq ?_
  refine E.CW.seq ?_
  refine E.CW.region ?_
  refine E.OW.pure rfl rfl rfl (E.PV.loads (i := 0) is28 rfl rfl rfl rfl) ?_
  (refine E.OW.call nm87 rfl rfl rfl rfl rfl rfl _ (fun w hw => Ck_ok g w ?_ ?_) ?_; (focus (refine hw.rdC ?_; assumption)); (focus (assumption)); rintro _ _ ⟨rfl, rfl⟩)
  refine E.OW.pure rfl rfl rfl (E.PV.assign rfl rfl) ?_
  refine E.OW.nil ?_
  refine E.then_n ?_
  refine E.CW.seq ?_
  refine E.CW.region ?_
  refine E.OW.pure rfl rfl rfl (E.PV.move rfl rfl) ?_
  refine E.OW.pure rfl rfl rfl (E.PV.neq rfl rfl rfl) ?_
  refine E.OW.nil ?_
  refine E.then_n ?_
  refine E.CW.cond rfl (fun hc => ?_) (fun hc => ?_)
  · simp only [E.b0, E.b1, E.b2, E.b3, E.b4, E.b5, E.b6, E.b7, E.b8, E.b9, E.b10, E.b11, E.b12, E.b13, E.b14, E.b15, E.b16, E.b17, E.b18, E.b19, E.b20, reduceCtorEq] at hc
    all_goals (
      refine E.CW.seq ?_
      refine E.CW.region ?_
      refine E.OW.pure rfl rfl rfl (E.PV.move rfl rfl) ?_
      refine E.OW.pure rfl rfl rfl (E.PV.assign rfl rfl) ?_
      refine E.OW.nil ?_
      refine E.then_n ?_
      refine E.CW.ret ?_
      refine E.then_ret ?_
      refine E.KR.one [] Try.results42 rfl rfl ?_
      exact ⟨by rw [Rt.sound_bad (by assumption)], rfl⟩)
  · simp only [E.b0, E.b1, E.b2, E.b3, E.b4, E.b5, E.b6, E.b7, E.b8, E.b9, E.b10, E.b11, E.b12, E.b13, E.b14, E.b15, E.b16, E.b17, E.b18, E.b19, E.b20, reduceCtorEq] at hc
    all_goals (
      refine E.CW.skip ?_
      refine E.then_n ?_
      refine E.CW.seq ?_
      have hcz : Cf.check g.q = 0 := by assumption
      have htn := E.Cfg.ts_len g
      have ht3 := Cf.teams_len (Cf.check_zero hcz).2.2.1
      have htl := Cf.tenants_len g.q.ts g.q.ts.length
      refine E.CW.region ?_
      refine E.OW.pure rfl rfl rfl (E.PV.loads (i := 0) is28 rfl rfl rfl rfl) ?_
      (refine E.OW.call nm55 rfl rfl rfl rfl rfl rfl _ (fun w hw => Tt_ok g w ?_ ?_) ?_; (focus (refine hw.rdC ?_; assumption)); (focus (assumption)); rintro _ _ ⟨AY, cY, rfl, rfl⟩)
      refine E.OW.pure rfl rfl rfl (E.PV.move rfl rfl) ?_
      refine E.OW.pure rfl rfl rfl (E.PV.extract rfl rfl rfl) ?_
      refine E.OW.pure rfl rfl rfl (E.PV.extract rfl rfl rfl) ?_
      refine E.OW.pure rfl rfl rfl (E.PV.assign rfl rfl) ?_
      refine E.OW.pure rfl rfl rfl (E.PV.assign rfl rfl) ?_
      refine E.OW.nil ?_
      refine E.then_n ?_
      refine E.CW.seq ?_
      refine E.CW.seq ?_
      rw [show (Cf.tenantsR g.q).1 = (Cf.tenants g.q.ts g.q.ts.length) from congrArg Prod.fst (Cf.tenants_ok hcz)]
      refine E.CW.region ?_
      refine E.OW.pure rfl rfl rfl (E.PV.move rfl rfl) ?_
      refine E.OW.pure rfl rfl rfl (E.PV.len Try.underlying31 rfl rfl) ?_
      refine E.OW.pure rfl rfl rfl (E.PV.move rfl rfl) ?_
      refine E.OW.nil ?_
      refine E.then_n ?_
      refine E.CW.block ?_
      refine E.CW.loopk [1, 18, 19] 0 rfl rfl (fun mm mods Hm => ∃ i : Nat, mm = (Cf.tenants g.q.ts g.q.ts.length).length - i ∧ mods = [(20, .int .i64 i)] ∧ Hm = [] ∧ (i ≤ (Cf.tenants g.q.ts g.q.ts.length).length ∧ ∀ j, j < i → 0 ≤ Rt.most g.q ((Cf.tenants g.q.ts g.q.ts.length).getD j 0))) ((Cf.tenants g.q.ts g.q.ts.length).length) ?_ ?_
      · exact ⟨[(20, _)], (by repeat (first | exact E.cov_nil | refine ⟨rfl, ?_⟩)), 0, rfl, rfl, rfl, by omega, fun j hj => by omega⟩
      · rintro _ _ _ ⟨i, rfl, rfl, rfl, hi, hI⟩
        refine E.CW.seq ?_
        refine E.CW.region ?_
        refine E.OW.pure rfl rfl rfl (E.PV.lss rfl rfl rfl) ?_
        refine E.OW.nil ?_
        refine E.then_n ?_
        refine E.CW.seq ?_
        refine E.CW.cond rfl (fun hc => ?_) (fun hc => ?_)
        · simp only [E.b0, E.b1, E.b2, E.b3, E.b4, E.b5, E.b6, E.b7, E.b8, E.b9, E.b10, E.b11, E.b12, E.b13, E.b14, E.b15, E.b16, E.b17, E.b18, E.b19, E.b20, reduceCtorEq] at hc
          all_goals (
            refine E.CW.skip ?_
            refine E.then_n ?_
            refine E.CW.seq ?_
            refine E.CW.block ?_
            refine E.CW.seq ?_
            refine E.CW.region ?_
            refine E.OW.pure rfl rfl rfl (E.PV.indexAddr1 (E.rdr (i := 0) rfl) Try.underlying31 in3 rfl rfl rfl rfl ?_ ?_) ?_; (focus (first | (simp; done) | (simp; omega))); (focus (omega))
            refine E.OW.pure rfl rfl rfl (E.PV.load_int (E.rdr (i := 0) rfl) na3 rfl rfl ?_) ?_; (focus (omega))
            refine E.OW.pure rfl rfl rfl (E.PV.assign rfl rfl) ?_
            refine E.OW.nil ?_
            refine E.then_n ?_
            refine E.CW.seq ?_
            refine E.CW.region ?_
            refine E.OW.pure rfl rfl rfl (E.PV.loads (i := 1) is28 rfl rfl rfl rfl) ?_
            refine E.OW.pure rfl rfl rfl (E.PV.move rfl rfl) ?_
            (refine E.OW.call nm88 rfl rfl rfl rfl rfl rfl _ (fun w hw => lo_ok g ((Cf.tenants g.q.ts g.q.ts.length).getD i 0) w ?_ ?_ (Rt.ten_of hcz (by omega))) ?_; (focus (refine hw.rdC ?_; assumption)); (focus (assumption)); rintro _ _ ⟨rfl, rfl⟩)
            refine E.OW.pure rfl rfl rfl (E.PV.lss rfl rfl rfl) ?_
            refine E.OW.nil ?_
            refine E.then_n ?_
            refine E.CW.cond rfl (fun hc => ?_) (fun hc => ?_)
            · simp only [E.b0, E.b1, E.b2, E.b3, E.b4, E.b5, E.b6, E.b7, E.b8, E.b9, E.b10, E.b11, E.b12, E.b13, E.b14, E.b15, E.b16, E.b17, E.b18, E.b19, E.b20, reduceCtorEq] at hc
              all_goals (
                refine E.CW.seq ?_
                refine E.CW.region ?_
                refine E.OW.pure rfl rfl rfl (E.PV.assign rfl rfl) ?_
                refine E.OW.nil ?_
                refine E.then_n ?_
                refine E.CW.ret ?_
                refine E.blk_ret ?_
                refine E.then_ret ?_
                refine E.then_ret ?_
                refine E.blk_ret ?_
                refine E.then_ret ?_
                refine E.KR.one [] Try.results42 rfl rfl ?_
                exact ⟨by rw [Rt.sound_no hcz (i := i) (by omega) (by omega)], rfl⟩)
            · simp only [E.b0, E.b1, E.b2, E.b3, E.b4, E.b5, E.b6, E.b7, E.b8, E.b9, E.b10, E.b11, E.b12, E.b13, E.b14, E.b15, E.b16, E.b17, E.b18, E.b19, E.b20, reduceCtorEq] at hc
              all_goals (
                refine E.CW.skip ?_
                refine E.blk_n ?_
                refine E.then_n ?_
                refine E.CW.region ?_
                refine E.OW.pure rfl rfl rfl (E.PV.add_i64 rfl rfl rfl ?_) ?_; (focus (omega))
                refine E.OW.pure rfl rfl rfl (E.PV.move rfl rfl) ?_
                refine E.OW.nil ?_
                refine E.then_nf ?_
                refine ⟨_, [(20, _)], [0, 0], _, ?_, by repeat (first | exact E.cov_nil | refine ⟨rfl, ?_⟩), rfl, i + 1, rfl, rfl, rfl, by omega, Cf.next_all hI (by omega)⟩
                omega))
        · simp only [E.b0, E.b1, E.b2, E.b3, E.b4, E.b5, E.b6, E.b7, E.b8, E.b9, E.b10, E.b11, E.b12, E.b13, E.b14, E.b15, E.b16, E.b17, E.b18, E.b19, E.b20, reduceCtorEq] at hc
          all_goals (
            refine E.CW.exit ?_
            refine E.then_x ?_
            refine E.then_x ?_
            refine E.blk_eq ?_
            refine E.then_n ?_
            refine E.CW.seq ?_
            refine E.CW.region ?_
            refine E.OW.pure rfl rfl rfl (E.PV.assign rfl rfl) ?_
            refine E.OW.nil ?_
            refine E.then_n ?_
            refine E.CW.ret ?_
            refine E.KR.one [] Try.results42 rfl rfl ?_
            exact ⟨by rw [Rt.sound_yes hcz fun j hj => hI j (by omega)], rfl⟩))

set_option maxRecDepth 100000 in
theorem Lo_ok (g : E.Cfg) (t : Int) (w0 : World) (hg : g.rd w0 (E.Old w0)) (hgf : g.q.fit) :
    Calls Try.prog 43 #[g.v, .int .i64 t] w0 (E.Post w0 (E.Old w0) fun v Hn => v = .tuple #[.int .i64 (Rt.longestR g.q t).1, .int .i64 (Rt.longestR g.q t).2] ∧ Hn = []) := by
  obtain ⟨hX1, hX2, hX3, hX4⟩ := id hg
  have hgl := E.Cfg.fit_len hgf
  refine E.calls_of (vs := [g.v, .int .i64 t]) (H := []) Try.func43 Try.ntmps43 rfl rfl (E.HA.start w0) ?_
  refine E.CW.seq ?_
  refine E.CW.region ?_
  refine E.OW.box rfl rfl rfl rfl rfl rfl (fun B1 => ?_)
  refine E.OW.pure rfl rfl rfl (E.PV.assign rfl rfl) ?_
  refine E.OW.pure rfl rfl rfl (E.PV.assign rfl rfl) ?_
  refine E.OW.nil ?_
  refine E.then_n ?_
  refine E.CW.seq ?_
  refine E.CW.seq ?_
  refine E.CW.region ?_
  refine E.OW.pure rfl rfl rfl (E.PV.loads (i := 0) is28 rfl rfl rfl rfl) ?_
  refine E.OW.pure rfl rfl rfl (E.PV.move rfl rfl) ?_
  (refine E.OW.call nm66 rfl rfl rfl rfl rfl rfl _ (fun w hw => Ask_ok g t 0 w ?_ ?_ ?_) ?_; (focus (refine hw.rdC ?_; assumption)); (focus (assumption)); (focus (omega)); rintro _ _ ⟨rfl, rfl⟩)
  refine E.OW.pure rfl rfl rfl (E.PV.assign rfl rfl) ?_
  refine E.OW.nil ?_
  refine E.then_n ?_
  refine E.CW.seq ?_
  refine E.CW.region ?_
  refine E.OW.pure rfl rfl rfl (E.PV.move rfl rfl) ?_
  refine E.OW.pure rfl rfl rfl (E.PV.neq rfl rfl rfl) ?_
  refine E.OW.nil ?_
  refine E.then_n ?_
  refine E.CW.cond rfl (fun hc => ?_) (fun hc => ?_)
  · simp only [E.b0, E.b1, E.b2, E.b3, E.b4, E.b5, E.b6, E.b7, E.b8, E.b9, E.b10, E.b11, E.b12, E.b13, E.b14, E.b15, E.b16, E.b17, E.b18, E.b19, E.b20, reduceCtorEq] at hc
    all_goals (
      refine E.CW.seq ?_
      refine E.CW.region ?_
      refine E.OW.pure rfl rfl rfl (E.PV.move rfl rfl) ?_
      refine E.OW.pure rfl rfl rfl (E.PV.assign rfl rfl) ?_
      refine E.OW.pure rfl rfl rfl (E.PV.assign rfl rfl) ?_
      refine E.OW.nil ?_
      refine E.then_n ?_
      refine E.CW.ret ?_
      refine E.then_ret ?_
      refine E.KR.two [] Try.results43 rfl rfl rfl ?_
      exact ⟨by rw [show Rt.longestR g.q t = (0, Rt.asked g.q t 0) from if_neg (by assumption)], rfl⟩)
  · simp only [E.b0, E.b1, E.b2, E.b3, E.b4, E.b5, E.b6, E.b7, E.b8, E.b9, E.b10, E.b11, E.b12, E.b13, E.b14, E.b15, E.b16, E.b17, E.b18, E.b19, E.b20, reduceCtorEq] at hc
    all_goals (
      refine E.CW.skip ?_
      refine E.then_n ?_
      refine E.CW.seq ?_
      refine E.CW.seq ?_
      have hTn := Rt.asked_ten (show Rt.asked g.q t 0 = 0 by assumption)
      refine E.CW.region ?_
      refine E.OW.pure rfl rfl rfl (E.PV.loads (i := 0) is28 rfl rfl rfl rfl) ?_
      (refine E.OW.call nm42 rfl rfl rfl rfl rfl rfl _ (fun w hw => So_ok _ w ?_ ?_) ?_; (focus (refine hw.rdC ?_; assumption)); (focus (assumption)); rintro _ _ ⟨rfl, rfl⟩)
      refine E.OW.pure rfl rfl rfl (E.PV.assign rfl rfl) ?_
      refine E.OW.nil ?_
      refine E.then_n ?_
      refine E.CW.seq ?_
      refine E.CW.region ?_
      refine E.OW.pure rfl rfl rfl (E.PV.move rfl rfl) ?_
      refine E.OW.pure rfl rfl rfl (E.PV.neq rfl rfl rfl) ?_
      refine E.OW.nil ?_
      refine E.then_n ?_
      refine E.CW.cond rfl (fun hc => ?_) (fun hc => ?_)
      · simp only [E.b0, E.b1, E.b2, E.b3, E.b4, E.b5, E.b6, E.b7, E.b8, E.b9, E.b10, E.b11, E.b12, E.b13, E.b14, E.b15, E.b16, E.b17, E.b18, E.b19, E.b20, reduceCtorEq] at hc
        all_goals (
          refine E.CW.seq ?_
          refine E.CW.region ?_
          refine E.OW.pure rfl rfl rfl (E.PV.move rfl rfl) ?_
          refine E.OW.pure rfl rfl rfl (E.PV.assign rfl rfl) ?_
          refine E.OW.pure rfl rfl rfl (E.PV.assign rfl rfl) ?_
          refine E.OW.nil ?_
          refine E.then_n ?_
          refine E.CW.ret ?_
          refine E.then_ret ?_
          refine E.KR.two [] Try.results43 rfl rfl rfl ?_
          exact ⟨by rw [show Rt.longestR g.q t = (0, Rt.soundR g.q) from (if_pos (by assumption)).trans (if_neg (by assumption))], rfl⟩)
      · simp only [E.b0, E.b1, E.b2, E.b3, E.b4, E.b5, E.b6, E.b7, E.b8, E.b9, E.b10, E.b11, E.b12, E.b13, E.b14, E.b15, E.b16, E.b17, E.b18, E.b19, E.b20, reduceCtorEq] at hc
        all_goals (
          refine E.CW.skip ?_
          refine E.then_n ?_
          refine E.CW.seq ?_
          refine E.CW.region ?_
          refine E.OW.pure rfl rfl rfl (E.PV.loads (i := 0) is28 rfl rfl rfl rfl) ?_
          refine E.OW.pure rfl rfl rfl (E.PV.move rfl rfl) ?_
          (refine E.OW.call nm88 rfl rfl rfl rfl rfl rfl _ (fun w hw => lo_ok g t w ?_ ?_ hTn) ?_; (focus (refine hw.rdC ?_; assumption)); (focus (assumption)); rintro _ _ ⟨rfl, rfl⟩)
          refine E.OW.pure rfl rfl rfl (E.PV.assign rfl rfl) ?_
          refine E.OW.pure rfl rfl rfl (E.PV.assign rfl rfl) ?_
          refine E.OW.nil ?_
          refine E.then_n ?_
          refine E.CW.ret ?_
          refine E.KR.two [] Try.results43 rfl rfl rfl ?_
          exact ⟨by rw [show Rt.longestR g.q t = (Rt.most g.q t, 0) from (if_pos (by assumption)).trans (if_pos (by assumption))], rfl⟩))

set_option maxRecDepth 100000 in
theorem Bo_ok (g : E.Cfg) (t : Int) (w0 : World) (hg : g.rd w0 (E.Old w0)) (hgf : g.q.fit) :
    Calls Try.prog 45 #[g.v, .int .i64 t] w0 (E.Post w0 (E.Old w0) fun v Hn => v = .tuple #[.int .i64 (Rt.boundR g.q t).1, .int .i64 (Rt.boundR g.q t).2] ∧ Hn = []) := by
  obtain ⟨hX1, hX2, hX3, hX4⟩ := id hg
  have hgl := E.Cfg.fit_len hgf
  refine E.calls_of (vs := [g.v, .int .i64 t]) (H := []) Try.func45 Try.ntmps45 rfl rfl (E.HA.start w0) ?_
  refine E.CW.seq ?_
  refine E.CW.region ?_
  refine E.OW.box rfl rfl rfl rfl rfl rfl (fun B1 => ?_)
  refine E.OW.pure rfl rfl rfl (E.PV.assign rfl rfl) ?_
  refine E.OW.pure rfl rfl rfl (E.PV.assign rfl rfl) ?_
  refine E.OW.nil ?_
  refine E.then_n ?_
  refine E.CW.seq ?_
  refine E.CW.region ?_
  refine E.OW.pure rfl rfl rfl (E.PV.loads (i := 0) is28 rfl rfl rfl rfl) ?_
  refine E.OW.pure rfl rfl rfl (E.PV.move rfl rfl) ?_
  (refine E.OW.call nm43 rfl rfl rfl rfl rfl rfl _ (fun w hw => Lo_ok _ _ w ?_ ?_) ?_; (focus (refine hw.rdC ?_; assumption)); (focus (assumption)); rintro _ _ ⟨rfl, rfl⟩)
  refine E.OW.pure rfl rfl rfl (E.PV.move rfl rfl) ?_
  refine E.OW.pure rfl rfl rfl (E.PV.extract rfl rfl rfl) ?_
  refine E.OW.pure rfl rfl rfl (E.PV.extract rfl rfl rfl) ?_
  refine E.OW.pure rfl rfl rfl (E.PV.assign rfl rfl) ?_
  refine E.OW.pure rfl rfl rfl (E.PV.assign rfl rfl) ?_
  refine E.OW.nil ?_
  refine E.then_n ?_
  refine E.CW.seq ?_
  refine E.CW.seq ?_
  refine E.CW.region ?_
  refine E.OW.pure rfl rfl rfl (E.PV.move rfl rfl) ?_
  refine E.OW.pure rfl rfl rfl (E.PV.neq rfl rfl rfl) ?_
  refine E.OW.nil ?_
  refine E.then_n ?_
  refine E.CW.cond rfl (fun hc => ?_) (fun hc => ?_)
  · simp only [E.b0, E.b1, E.b2, E.b3, E.b4, E.b5, E.b6, E.b7, E.b8, E.b9, E.b10, E.b11, E.b12, E.b13, E.b14, E.b15, E.b16, E.b17, E.b18, E.b19, E.b20, reduceCtorEq] at hc
    all_goals (
      refine E.CW.seq ?_
      refine E.CW.region ?_
      refine E.OW.pure rfl rfl rfl (E.PV.move rfl rfl) ?_
      refine E.OW.pure rfl rfl rfl (E.PV.assign rfl rfl) ?_
      refine E.OW.pure rfl rfl rfl (E.PV.assign rfl rfl) ?_
      refine E.OW.nil ?_
      refine E.then_n ?_
      refine E.CW.ret ?_
      refine E.then_ret ?_
      refine E.KR.two [] Try.results45 rfl rfl rfl ?_
      exact ⟨by rw [show Rt.boundR g.q t = (0, (Rt.longestR g.q t).2) from if_neg (by assumption)]; rfl, rfl⟩)
  · simp only [E.b0, E.b1, E.b2, E.b3, E.b4, E.b5, E.b6, E.b7, E.b8, E.b9, E.b10, E.b11, E.b12, E.b13, E.b14, E.b15, E.b16, E.b17, E.b18, E.b19, E.b20, reduceCtorEq] at hc
    all_goals (
      refine E.CW.skip ?_
      refine E.then_n ?_
      refine E.CW.seq ?_
      obtain ⟨hTn, hlm⟩ := Rt.long_ten (show (Rt.longestR g.q t).2 = 0 by assumption)
      obtain ⟨ht0, ht3, htn⟩ := hTn.ten
      have htl : t.toNat < g.ts.length := by rw [← E.Cfg.ts_len g]; exact htn
      have hmt := hg.m _ (E.Tm.mem htl)
      have hsp : Rt.team g.q t = (g.ts.getD t.toNat E.Tm.z).q := E.Cfg.ts_getD g _
      obtain ⟨⟨_, h3h⟩, ⟨_, h3p⟩, ⟨_, h3d⟩⟩ := hTn.small
      rw [hsp] at h3h h3p h3d
      have hm1 := Nat.mul_le_mul h3h h3p
      have hm2 := Nat.mul_le_mul h3p h3d
      have hnu := hTn.nums
      rw [hsp] at hnu
      obtain ⟨hn1, hn2, hn3⟩ := hnu
      have hbd := Rt.bd_parts (n := 0) h3h hn3
      have hmb := Rt.most_b hTn
      refine E.CW.region ?_
      refine E.OW.pure rfl rfl rfl (E.PV.fieldAddr fa28_2 rfl rfl) ?_
      refine E.OW.pure rfl rfl rfl (E.PV.load (i := 0) na25 rfl rfl rfl rfl) ?_
      refine E.OW.pure rfl rfl rfl (E.PV.move rfl rfl) ?_
      refine E.OW.pure rfl rfl rfl (E.PV.indexAddr (E.rdc hX3) Try.underlying25 in79 rfl rfl rfl (E.tn ?_) ?_ ?_ (by decide)) ?_; (focus (omega)); (focus (first | (simp; done) | (simp; omega))); (focus (omega))
      refine E.OW.pure rfl rfl rfl (E.PV.load_tm (E.rdc hX3) is79 rfl rfl ?_) ?_; (focus (omega))
      refine E.OW.alloc (in79.zr) rfl rfl rfl rfl rfl (fun B2 => ?_)
      refine E.OW.store (i := 0) in79.size rfl rfl rfl rfl rfl rfl rfl rfl rfl ?_
      refine E.OW.nil ?_
      refine E.then_n ?_
      refine E.CW.seq ?_
      refine E.CW.region ?_
      refine E.OW.pure rfl rfl rfl (E.PV.fieldAddr fa79_0 rfl rfl) ?_
      refine E.OW.pure rfl rfl rfl (E.PV.load (i := 0) na31 rfl rfl rfl rfl) ?_
      refine E.OW.pure rfl rfl rfl (E.PV.len Try.underlying31 rfl rfl) ?_
      refine E.OW.pure rfl rfl rfl (E.PV.assign rfl rfl) ?_
      refine E.OW.nil ?_
      refine E.then_n ?_
      refine E.CW.seq ?_
      refine E.CW.region ?_
      refine E.OW.pure rfl rfl rfl (E.PV.fieldAddr fa79_5 rfl rfl) ?_
      refine E.OW.pure rfl rfl rfl (E.PV.load (i := 0) na3 rfl rfl rfl rfl) ?_
      refine E.OW.pure rfl rfl rfl (E.PV.move rfl rfl) ?_
      refine E.OW.pure rfl rfl rfl (E.PV.add_i64 rfl rfl rfl ?_) ?_; (focus (omega))
      refine E.OW.pure rfl rfl rfl (E.PV.add_i64 rfl rfl rfl ?_) ?_; (focus (omega))
      refine E.OW.pure rfl rfl rfl (E.PV.move rfl rfl) ?_
      refine E.OW.pure rfl rfl rfl (E.PV.mul_i64 rfl rfl rfl ?_) ?_; (focus (omega))
      refine E.OW.pure rfl rfl rfl (E.PV.add_i64 rfl rfl rfl ?_) ?_; (focus (omega))
      refine E.OW.pure rfl rfl rfl (E.PV.mul_i64 rfl rfl rfl ?_) ?_; (focus (exact Rt.mulb (by omega) (by omega)))
      refine E.OW.pure rfl rfl rfl (E.PV.move rfl rfl) ?_
      refine E.OW.pure rfl rfl rfl (E.PV.fieldAddr fa79_3 rfl rfl) ?_
      refine E.OW.pure rfl rfl rfl (E.PV.load (i := 0) na3 rfl rfl rfl rfl) ?_
      refine E.OW.pure rfl rfl rfl (E.PV.add_i64 rfl rfl rfl ?_) ?_; (focus (omega))
      refine E.OW.pure rfl rfl rfl (E.PV.fieldAddr fa79_4 rfl rfl) ?_
      refine E.OW.pure rfl rfl rfl (E.PV.load (i := 0) na3 rfl rfl rfl rfl) ?_
      refine E.OW.pure rfl rfl rfl (E.PV.add_i64 rfl rfl rfl ?_) ?_; (focus (omega))
      refine E.OW.pure rfl rfl rfl (E.PV.add_i64 rfl rfl rfl ?_) ?_; (focus (omega))
      refine E.OW.pure rfl rfl rfl (E.PV.mul_i64 rfl rfl rfl ?_) ?_; (focus (exact Rt.mulb (by omega) (by omega)))
      refine E.OW.pure rfl rfl rfl (E.PV.assign rfl rfl) ?_
      refine E.OW.pure rfl rfl rfl (E.PV.assign rfl rfl) ?_
      refine E.OW.nil ?_
      refine E.then_n ?_
      refine E.CW.ret ?_
      refine E.KR.two [] Try.results45 rfl rfl rfl ?_
      exact ⟨by rw [show Rt.boundR g.q t = (Rt.bd (Rt.team g.q t) (Rt.longestR g.q t).1, 0) from if_pos (by assumption), hsp]; rfl, rfl⟩)
end Go.Proofs.Ytflkbabhbnmajaa

/- The reference of routes, plainly. -/
set_option linter.unusedSimpArgs false
set_option linter.unusedVariables false
namespace Go.Proofs.Ytflkbabhbnmajaa
namespace Rt
open Cf
theorem mine_ref {g : C} {t p : Int} (h : check g = 0) (hp : 0 ≤ p ∧ p < g.l.length) (ht : 0 ≤ t ∧ t < 3) : mine g t p = Fl.own t (g.l.getD p.toNat 0) := by
  unfold mine
  rw [owner_on h hp, Fl.own_iff ht (Fl.okc_at (check_zero h).1 (by omega))]
theorem aisle_ref {g : C} {p : Int} (h : check g = 0) (hp : 0 ≤ p ∧ p < g.l.length) : aisle g p = decide (Fl.ownerC (g.l.getD p.toNat 0) = -2) := by
  unfold aisle
  rw [owner_on h hp]
theorem slo {g : C} (h : check g = 0) (tick : Int) : Fl.sliceOwner g.s tick = (Fl.sown g.s tick 0, 0) := Fl.owner_ok (check_zero h).2.1
theorem allows_mine {g : C} {t p tick : Int} (h : check g = 0) : allows g t p tick = (mine g t p || (aisle g p && decide (Fl.sown g.s tick 0 = t))) := by
  unfold allows mine aisle
  rw [slo h]
  by_cases h1 : owner g p = t
  · simp [h1]
  · by_cases h2 : owner g p = -2
    · rw [if_neg h1, if_pos h2, decide_eq_false h1, decide_eq_true h2]; simp
    · rw [if_neg h1, if_neg h2, decide_eq_false h1, decide_eq_false h2]; rfl
theorem alw_allows {g : C} {t a b p tick : Int} (h : check g = 0) : alw g t a b tick p = (has g t a b p && allows g t p tick) := by
  unfold alw
  rw [allows_mine h, slo h]
theorem sown_ph {g : C} (h : check g = 0) (tick : Int) : Fl.sown g.s ((ph g tick : Nat) : Int) 0 = Fl.sown g.s tick 0 := by
  have h1 := per_of h
  unfold Fl.sown Fl.ent
  rw [← ph_int h tick, Int.emod_emod]
theorem alw_ph {g : C} {t a b p : Int} (h : check g = 0) (tick : Int) : alw g t a b ((ph g tick : Nat) : Int) p = alw g t a b tick p := by
  unfold alw
  rw [slo h, slo h, sown_ph h]
theorem G_al {g : C} {t a b tick : Int} (h : check g = 0) (p : Nat) : (G g t a b).al (ph g tick) p = alw g t a b tick (p : Int) := alw_ph h tick
theorem on_iff {g : C} {p : Int} : on g p = true ↔ 0 ≤ p ∧ p < (g.l.length : Int) := by simp [on]
theorem onLeg_off {g : C} {t a b : Int} (hT : Ten g t) (h : on g a = false ∨ on g b = false) : onLeg g t a b = false := by
  have ht := hT.ten
  unfold onLeg
  rcases h with h | h
  · rw [owner_off hT.c (p := a) fun hh => by rw [on_iff.2 hh] at h; cases h]
    rw [decide_eq_false (show ¬ (-1 : Int) = t by omega)]; simp
  · rw [owner_off hT.c (p := b) fun hh => by rw [on_iff.2 hh] at h; cases h]
    rw [decide_eq_false (show ¬ (-1 : Int) = t by omega)]; rfl
theorem onLeg_ref {g : C} {t a b : Int} (hT : Ten g t) (ha : on g a = true) (hb : on g b = true) : onLeg g t a b = (Fl.own t (g.l.getD b.toNat 0) && (Fl.own t (g.l.getD a.toNat 0) || decide (Fl.ownerC (g.l.getD a.toNat 0) = -2))) := by
  have ht := hT.ten
  rw [← mine_ref hT.c (on_iff.1 hb) ⟨ht.1, ht.2.1⟩, ← mine_ref hT.c (on_iff.1 ha) ⟨ht.1, ht.2.1⟩, ← aisle_ref hT.c (on_iff.1 ha)]
  rfl
theorem legE_bad {g : C} {t a b tick : Int} (h : ¬ asked g t tick = 0) : legE g t a b tick = asked g t tick := if_neg h
theorem legE_no {g : C} {t a b tick : Int} (h : asked g t tick = 0) (h2 : onLeg g t a b = false) : legE g t a b tick = 2 := (if_pos h).trans (if_neg (by rw [h2]; decide))
theorem legE_yes {g : C} {t a b tick : Int} (h : asked g t tick = 0) (h2 : onLeg g t a b = true) : legE g t a b tick = 0 := (if_pos h).trans (if_pos h2)
theorem has_ref {g : C} {t a b p : Int} (hT : Ten g t) (hp : 0 ≤ p ∧ p < g.l.length) : has g t a b p = (decide (p = a) || decide (p = b) || decide (Fl.ownerC (g.l.getD p.toNat 0) = -2) || (Fl.own t (g.l.getD p.toNat 0) && !decide (p ∈ spots (team g t)))) := by
  have ht := hT.ten
  unfold has
  rw [mine_ref hT.c hp ⟨ht.1, ht.2.1⟩, aisle_ref hT.c hp]
theorem not_spot {l : List Int} {p : Int} (h : ∀ j, j < l.length → ¬ l.getD j 0 = p) : decide (p ∈ l) = false := decide_eq_false fun hm => by
  obtain ⟨i, hi, he⟩ := List.getElem_of_mem hm
  exact h i hi (by rw [List.getD_eq_getElem?_getD, List.getElem?_eq_getElem hi, Option.getD_some]; exact he)
theorem is_spot {l : List Int} {p : Int} {i : Nat} (hi : i < l.length) (h : l.getD i 0 = p) : decide (p ∈ l) = true := decide_eq_true (by rw [← h]; exact getD_mem hi)
theorem near_same {a b p q : Int} (h : p = q) : decide (q ∈ nearI a b p) = true := decide_eq_true (near_mem.2 (.inl h.symm))
theorem near_dir {a b p q : Int} {d : Nat} (hd : d < 4) (hq : 0 ≤ q) (h : Fl.mv a b p (d : Int) = q) : decide (q ∈ nearI a b p) = true := decide_eq_true (near_mem.2 (.inr ⟨d, hd, h, hq⟩))
theorem near_not {a b p q : Int} (h0 : ¬ p = q) (h : ∀ d : Nat, d < 4 → ¬ Fl.mv a b p (d : Int) = q) : decide (q ∈ nearI a b p) = false := decide_eq_false fun hm => by
  rcases near_mem.1 hm with h1 | ⟨d, h1, h2, _⟩
  · exact h0 h1.symm
  · exact h d h1 h2
/-- the places one tick later, as the reference finds them. -/
def ltf (g : C) (r : Nat → Bool) (p q : Nat) : Bool := (List.range p).any fun p' => r p' && decide (q ∈ near g p')
def ltd (g : C) (r : Nat → Bool) (p d q : Nat) : Bool := ltf g r p q || decide ((q : Int) ∈ nearTo g.a g.b (p : Int) d)
theorem ltf_zero (n : Nat) (g : C) (r : Nat → Bool) : E.bls n (fun _ => false) = E.bls n (ltf g r 0) := E.bls_congr fun q _ => by simp [ltf]
theorem ltf_succ (g : C) (r : Nat → Bool) (p q : Nat) : ltf g r (p + 1) q = (ltf g r p q || (r p && decide (q ∈ near g p))) := by
  unfold ltf; rw [List.range_succ, List.any_append]; simp
theorem ltf_skip {n : Nat} {g : C} {r : Nat → Bool} {p : Nat} (h : r p = false) : E.bls n (ltf g r p) = E.bls n (ltf g r (p + 1)) := E.bls_congr fun q _ => by rw [ltf_succ, h]; simp
theorem ltd_zero {n : Nat} {g : C} {r : Nat → Bool} {p : Nat} : E.bls n (E.up (ltf g r p) p true) = E.bls n (ltd g r p 0) := E.bls_congr fun q _ => by
  unfold E.up ltd
  rw [near_zero]
  by_cases h : q = p
  · subst h; simp
  · have : ¬ (q : Int) = (p : Int) := by omega
    simp [h, this]
theorem ltd_yes {n : Nat} {g : C} {r : Nat → Bool} {p d : Nat} (h : 0 ≤ Fl.mv g.a g.b p d) : E.bls n (E.up (ltd g r p d) (Fl.mv g.a g.b p d).toNat true) = E.bls n (ltd g r p (d + 1)) := E.bls_congr fun q _ => by
  unfold E.up ltd
  rw [near_yes h]
  have e : decide ((q : Int) ∈ nearTo g.a g.b (p : Int) d ++ [Fl.mv g.a g.b p d]) = (decide ((q : Int) ∈ nearTo g.a g.b (p : Int) d) || decide ((q : Int) = Fl.mv g.a g.b p d)) := by
    rw [← Bool.decide_or]
    exact decide_eq_decide.2 (by rw [List.mem_append, List.mem_singleton])
  rw [e]
  by_cases hq : q = (Fl.mv g.a g.b p d).toNat
  · rw [if_pos hq, decide_eq_true (show (q : Int) = Fl.mv g.a g.b p d by omega)]; simp
  · rw [if_neg hq, decide_eq_false (show ¬ (q : Int) = Fl.mv g.a g.b p d by omega)]; simp
theorem ltd_no {n : Nat} {g : C} {r : Nat → Bool} {p d : Nat} (h : Fl.mv g.a g.b p d < 0) : E.bls n (ltd g r p d) = E.bls n (ltd g r p (d + 1)) := by
  unfold ltd; rw [near_no h]
theorem ltd_all {n : Nat} {g : C} {r : Nat → Bool} {p d : Nat} (hd : d = 4) (h : r p = true) : E.bls n (ltd g r p d) = E.bls n (ltf g r (p + 1)) := E.bls_congr fun q _ => by
  subst hd
  rw [ltf_succ, h, Bool.true_and]
  unfold ltd
  congr 1
  exact decide_eq_decide.2 mem_near.symm
/-- .. then those that are not free are left out. -/
def lef (g : C) (r f : Nat → Bool) (i q : Nat) : Bool := ltf g r g.l.length q && (!decide (q < i) || f q)
theorem lef_zero {n : Nat} {g : C} {r f : Nat → Bool} {p : Nat} (hp : p = g.l.length) : E.bls n (ltf g r p) = E.bls n (lef g r f 0) := E.bls_congr fun q _ => by subst hp; simp [lef]
theorem lef_step {n : Nat} {g : C} {r f : Nat → Bool} {i : Nat} {V : Bool} (h : V = (lef g r f i i && f i)) : E.bls n (E.up (lef g r f i) i V) = E.bls n (lef g r f (i + 1)) := E.bls_congr fun q _ => by
  unfold E.up
  by_cases hq : q = i
  · subst hq
    rw [if_pos rfl, h]
    unfold lef
    simp
  · rw [if_neg hq]
    unfold lef
    congr 2
    have : decide (q < i) = decide (q < i + 1) := decide_eq_decide.2 (by omega)
    rw [this]
theorem lef_R {n : Nat} {g : C} {t a b : Int} {k0 a0 m i : Nat} {tick : Int} {f : Nat → Bool} (h : check g = 0) (hn : n = g.l.length) (hi : i = g.l.length) (hk : (k0 + m + 1) % g.s.length = ph g tick) (hf : ∀ q, f q = alw g t a b tick (q : Int)) :
    E.bls n (lef g (Bf.R (G g t a b) k0 a0 m) f i) = E.bls n (Bf.R (G g t a b) k0 a0 (m + 1)) := E.bls_congr fun q hq => by
  subst hn hi
  unfold lef
  rw [decide_eq_true hq, hf]
  show _ = (((List.range g.l.length).any fun p => Bf.R (G g t a b) k0 a0 m p && decide (q ∈ near g p)) && (G g t a b).al ((k0 + m + 1) % g.s.length) q)
  rw [hk, G_al h]
  rfl
/-- the least number of steps, found by the sets of places. -/
theorem arr_found {g : C} {t a b : Int} (hL : Leg g t a b) {tick : Int} {m : Nat} (h1 : ∀ j, j < m → Bf.R (G g t a b) (ph g tick) a.toNat j b.toNat = false) (h2 : Bf.R (G g t a b) (ph g tick) a.toNat m b.toNat = true) : arrv g t a b tick = (m : Int) := by
  have ok := G_ok hL
  have hk := ph_lt hL.c tick
  have ha : a.toNat < (G g t a b).n := by have := hL.ra; show a.toNat < g.l.length; omega
  have hw := (Bf.R_iff ok ha hk m).1 h2
  rcases Bf.arr_ar ok hk ha (cell_from hL) with ⟨_, h⟩ | ⟨h3, _, h4, h5⟩
  · exact absurd hw (h m)
  · have h6 := h5 m hw
    unfold arrv
    rcases Int.lt_or_le (Bf.arr (G g t a b) (ph g tick) a.toNat) m with h7 | h7
    · have := h1 (Bf.arr (G g t a b) (ph g tick) a.toNat).toNat (by omega)
      rw [show b.toNat = (G g t a b).goal from rfl, (Bf.R_iff ok ha hk _).2 h4] at this
      cases this
    · omega
theorem arr_none {g : C} {t a b : Int} (hL : Leg g t a b) {tick : Int} (h1 : ∀ j, j < 1025 → Bf.R (G g t a b) (ph g tick) a.toNat j b.toNat = false) : arrv g t a b tick = -1 := by
  have ok := G_ok hL
  have hk := ph_lt hL.c tick
  have ha : a.toNat < (G g t a b).n := by have := hL.ra; show a.toNat < g.l.length; omega
  have hle := arr_le (tick := tick) hL
  rcases Bf.arr_ar ok hk ha (cell_from hL) with ⟨h, _⟩ | ⟨h3, _, h4, h5⟩
  · exact h
  · have := h1 (Bf.arr (G g t a b) (ph g tick) a.toNat).toNat (by unfold arrv at hle; omega)
    rw [show b.toNat = (G g t a b).goal from rfl, (Bf.R_iff ok ha hk _).2 h4] at this
    cases this
theorem on_cases (g : C) (p : Int) : (on g p = true ∧ 0 ≤ p ∧ p < (g.l.length : Int)) ∨ (on g p = false ∧ ¬ (0 ≤ p ∧ p < (g.l.length : Int))) := by
  rcases Bool.eq_false_or_eq_true (on g p) with h | h
  · exact .inl ⟨h, on_iff.1 h⟩
  · exact .inr ⟨h, fun hh => by rw [on_iff.2 hh] at h; cases h⟩
theorem al_at {g : C} {t a b tick z : Int} (h : check g = 0) (m : Nat) (hz : 0 ≤ z) : (G g t a b).al ((ph g tick + m + 1) % g.s.length) z.toNat = alw g t a b (tick + ((m + 1 : Nat) : Int)) z := by
  rw [show ph g tick + m + 1 = ph g tick + (m + 1) by omega, ← ph_add h (m + 1), G_al h, Int.toNat_of_nonneg hz]
theorem ph_step {g : C} (h : check g = 0) (tick : Int) (m : Nat) {u : Int} (hu : u = tick + (m : Int) + 1) : (ph g tick + m + 1) % g.s.length = ph g u := by
  rw [show ph g tick + m + 1 = ph g tick + (m + 1) by omega, ← ph_add h (m + 1)]
  congr 1
  omega
theorem nr_dec {g : C} {t a b p z : Int} (hp : 0 ≤ p) (hz : 0 ≤ z) : z.toNat ∈ (G g t a b).nr p.toNat ↔ z ∈ nearI g.a g.b p := by
  show z.toNat ∈ near g p.toNat ↔ _
  rw [mem_near, Int.toNat_of_nonneg hp, Int.toNat_of_nonneg hz]
theorem tick_k {g : C} {t a b : Int} {k : Nat} (hk : k < g.s.length) : arrv g t a b (k : Int) = Bf.arr (G g t a b) k a.toNat := by unfold arrv; rw [ph_nat k hk]
theorem sound_all {g : C} (h : check g = 0) : soundR g = 0 ↔ ∀ k : Nat, k < g.ts.length → present g.ts (k : Int) = true → 0 ≤ most g (k : Int) := by
  unfold soundR
  rw [if_pos h]
  constructor
  · intro hs k hk hp
    split at hs
    · rename_i ha
      have hm : (k : Int) ∈ tenants g.ts g.ts.length := List.mem_map.2 ⟨k, List.mem_filter.2 ⟨List.mem_range.2 hk, hp⟩, rfl⟩
      exact of_decide_eq_true (List.all_eq_true.1 ha _ hm)
    · exact absurd hs (by decide)
  · intro ha
    rw [if_pos]
    refine List.all_eq_true.2 fun t ht => ?_
    unfold tenants at ht
    obtain ⟨k, h1, rfl⟩ := List.mem_map.1 ht
    have h2 := List.mem_filter.1 h1
    exact decide_eq_true (ha k (List.mem_range.1 h2.1) h2.2)
theorem sound_two {g : C} (h : check g = 0) (hs : ¬ soundR g = 0) : soundR g = 130 := by
  unfold soundR at *
  rw [if_pos h] at *
  split
  · rename_i h2; rw [if_pos h2] at hs; exact absurd rfl hs
  · rfl
end Rt
namespace E
open Go Go.RowKit
section
variable {P : Program} {n : Fr} {w0 : World} {F : Nat → Prop} {K : Kt} {l : Env} {H : List HP} {o : Oper}
theorem PV.nep {t t' : TypeId} {x y : Operand} {p q r s : Int} (hG : P.eqGuardType P.depth t = false) (hN : ∀ (p q r s : Int) (w : World), (binOp .neq t (.agg #[.int .i64 p, .int .i64 q]) (.agg #[.int .i64 r, .int .i64 s])).run P w = .ok (.bool (!decide ((p, q) = (r, s)))) w)
    (ho : o.op = .binOp .neq t x y t') (hx : ev l x = some (.agg #[.int .i64 p, .int .i64 q])) (hy : ev l y = some (.agg #[.int .i64 r, .int .i64 s])) : PV P n w0 F l H o (.bool (!decide ((p, q) = (r, s)))) := fun a w ha _ => by
  have h1 := run_eqGuard_agg (P := P) w .neq t x y #[.int .i64 p, .int .i64 q] #[.int .i64 r, .int .i64 s] hG
  have h2 := hN p q r s w
  simp only [execOp, ho, ha.ev hx, ha.ev hy, Sem.run_bind, h1, h2, Result.andThen_ok]
  rfl
end
theorem snoc_len {α : Type} (X : List α) (x : α) : (X ++ [x]).length = X.length + 1 := by simp
theorem rowp_snoc (Et : Nat) (A : Option Addr) (c : Nat) (X : List (Int × Int)) (p q : Int) : [HP.row Et 2 A (X.length + 1) c (pairs X ++ [.int .i64 p, .int .i64 q])] = [HP.row Et 2 A (X ++ [(p, q)]).length c (pairs (X ++ [(p, q)]))] := by
  rw [List.length_append, pairs_append]; rfl
end E
end Go.Proofs.Ytflkbabhbnmajaa

/- Closed facts on the program (printed by gen.py). -/
namespace Go.Proofs.Ytflkbabhbnmajaa
open Go Go.RowKit
set_option linter.unusedSimpArgs false
set_option linter.unusedVariables false
theorem nm108 : E.Nm Try.prog 108 := ⟨Try.f108, Try.func108, rfl, by kernel_rfl⟩
theorem nm132 : E.Nm Try.prog 132 := ⟨Try.f132, Try.func132, rfl, by kernel_rfl⟩
theorem nm56 : E.Nm Try.prog 56 := ⟨Try.f56, Try.func56, rfl, by kernel_rfl⟩
theorem nm57 : E.Nm Try.prog 57 := ⟨Try.f57, Try.func57, rfl, by kernel_rfl⟩
theorem nm62 : E.Nm Try.prog 62 := ⟨Try.f62, Try.func62, rfl, by kernel_rfl⟩
theorem nm91 : E.Nm Try.prog 91 := ⟨Try.f91, Try.func91, rfl, by kernel_rfl⟩
theorem nm94 : E.Nm Try.prog 94 := ⟨Try.f94, Try.func94, rfl, by kernel_rfl⟩
end Go.Proofs.Ytflkbabhbnmajaa

/- Walks (printed by gen.py). -/
namespace Go.Proofs.Ytflkbabhbnmajaa
open Go Go.RowKit
set_option linter.unusedSimpArgs false
set_option linter.unusedVariables false

set_option maxRecDepth 100000 in
theorem rentry_ok (A : Option Addr) (c : Nat) (l : List UInt8) (tick : Int) (ht : 0 ≤ tick ∧ tick < 18446744073709551616) (k : Nat) (w0 : World) (h1 : 1 ≤ l.length ∧ l.length ≤ 16) (hk : k ≤ 16) :
    Calls Try.prog 132 #[.slice A l.length c, .int .u64 tick, .int .i64 (k : Int)] w0 (E.Post w0 (E.Old w0) fun v Hn => v = .int .i64 (Fl.ent l tick k : Nat) ∧ Hn = []) := by
  have hmb := Fl.mod_b (l := l) tick (by omega)
  have hmz := Fl.ent_zero (l := l) (tick := tick) (by omega)
  refine E.calls_of (vs := [.slice A l.length c, .int .u64 tick, .int .i64 (k : Int)]) (H := []) Try.func132 Try.ntmps132 rfl rfl (E.HA.start w0) ?_
  refine E.CW.seq ?_
  refine E.CW.region ?_
  refine E.OW.pure rfl rfl rfl (E.PV.assign rfl rfl) ?_
  refine E.OW.nil ?_
  refine E.then_n ?_
  refine E.CW.seq ?_
  refine E.CW.region ?_
  refine E.OW.pure rfl rfl rfl (E.PV.move rfl rfl) ?_
  refine E.OW.pure rfl rfl rfl (E.PV.move rfl rfl) ?_
  refine E.OW.pure rfl rfl rfl (E.PV.len Try.underlying22 rfl rfl) ?_
  refine E.OW.pure rfl rfl rfl (E.PV.conv_in Try.underlying3 Try.underlying26 rfl rfl ?_) ?_; (focus (first | exact E.wrap_u8 _ | (simp only [IntKind.wrap_i64, IntKind.wrap_u64, IntKind.wrap_u8]; omega)))
  refine E.OW.pure rfl rfl rfl (E.PV.rem_i64 rfl rfl rfl ?_ ?_) ?_; (focus (omega)); (focus (omega))
  refine E.OW.pure rfl rfl rfl (E.PV.conv_in Try.underlying26 Try.underlying3 rfl rfl ?_) ?_; (focus (first | exact E.wrap_u8 _ | (simp only [IntKind.wrap_i64, IntKind.wrap_u64, IntKind.wrap_u8]; omega)))
  refine E.OW.pure rfl rfl rfl (E.PV.move rfl rfl) ?_
  refine E.OW.pure rfl rfl rfl (E.PV.add_i64 rfl rfl rfl ?_) ?_; (focus (omega))
  refine E.OW.pure rfl rfl rfl (E.PV.move rfl rfl) ?_
  refine E.OW.pure rfl rfl rfl (E.PV.len Try.underlying22 rfl rfl) ?_
  refine E.OW.pure rfl rfl rfl (E.PV.rem_i64 rfl rfl rfl ?_ ?_) ?_; (focus (omega)); (focus (omega))
  refine E.OW.pure rfl rfl rfl (E.PV.assign rfl rfl) ?_
  refine E.OW.nil ?_
  refine E.then_n ?_
  refine E.CW.ret ?_
  refine E.KR.one [] Try.results132 rfl rfl ?_
  exact ⟨by rw [Fl.ent_cast (by omega)], rfl⟩

set_option maxRecDepth 100000 in
theorem rSliceOwner_ok (A : Option Addr) (c : Nat) (l : List UInt8) (tick : Int) (ht : 0 ≤ tick ∧ tick < 18446744073709551616) (w0 : World) (h1 : 1 ≤ l.length ∧ l.length ≤ 16) (hX : E.Rd w0 (E.Old w0) A (E.u8s l)) :
    Calls Try.prog 108 #[.slice A l.length c, .int .u64 tick] w0 (E.Post w0 (E.Old w0) fun v Hn => v = .int .i64 (Fl.sown l tick 0) ∧ Hn = []) := by
  have hlt := Fl.ent_lt (l := l) (tick := tick) (n := 0) (by omega)
  have hu := (l.getD (Fl.ent l tick 0) 0).toNat_lt
  refine E.calls_of (vs := [.slice A l.length c, .int .u64 tick]) (H := []) Try.func108 Try.ntmps108 rfl rfl (E.HA.start w0) ?_
  refine E.CW.seq ?_
  refine E.CW.region ?_
  refine E.OW.pure rfl rfl rfl (E.PV.assign rfl rfl) ?_
  refine E.OW.nil ?_
  refine E.then_n ?_
  refine E.CW.seq ?_
  refine E.CW.region ?_
  refine E.OW.pure rfl rfl rfl (E.PV.move rfl rfl) ?_
  refine E.OW.pure rfl rfl rfl (E.PV.move rfl rfl) ?_
  refine E.OW.pure rfl rfl rfl (E.PV.move rfl rfl) ?_
  (refine E.OW.call nm132 rfl rfl rfl rfl rfl rfl _ (fun w hw => rentry_ok _ _ _ _ ?_ 0 w ?_ ?_) ?_; (focus (assumption)); (focus (assumption)); (focus (omega)); rintro _ _ ⟨rfl, rfl⟩)
  refine E.OW.pure rfl rfl rfl (E.PV.indexAddr1 (E.rdc hX) Try.underlying22 in5 rfl rfl rfl rfl ?_ ?_) ?_; (focus (first | (simp; done) | (simp; omega))); (focus (omega))
  refine E.OW.pure rfl rfl rfl (E.PV.load_u8 (E.rdc hX) na5 rfl rfl ?_) ?_; (focus (omega))
  refine E.OW.pure rfl rfl rfl (E.PV.conv_in Try.underlying5 Try.underlying3 rfl rfl ?_) ?_; (focus (first | exact E.wrap_u8 _ | (simp only [IntKind.wrap_i64, IntKind.wrap_u64, IntKind.wrap_u8]; omega)))
  refine E.OW.pure rfl rfl rfl (E.PV.sub_i64 rfl rfl rfl ?_) ?_; (focus (omega))
  refine E.OW.pure rfl rfl rfl (E.PV.assign rfl rfl) ?_
  refine E.OW.nil ?_
  refine E.then_n ?_
  refine E.CW.ret ?_
  refine E.KR.one [] Try.results108 rfl rfl ?_
  exact ⟨rfl, rfl⟩

set_option maxRecDepth 100000 in
theorem GtF_ok (a b : Int) (A : Option Addr) (c : Nat) (l : List UInt8) (w0 : World) :
    Calls Try.prog 56 #[.agg #[.int .i64 a, .int .i64 b, .slice A l.length c]] w0 (E.Post w0 (E.Old w0) fun v Hn => ∃ b : Bool, v = .bool b ∧ Hn = []) := by
  refine E.calls_of (vs := [.agg #[.int .i64 a, .int .i64 b, .slice A l.length c]]) (H := []) Try.func56 Try.ntmps56 rfl rfl (E.HA.start w0) ?_
  refine E.CW.seq ?_
  refine E.CW.region ?_
  refine E.OW.box rfl rfl rfl rfl rfl rfl (fun B1 => ?_)
  refine E.OW.pure rfl rfl rfl (E.PV.assign rfl rfl) ?_
  refine E.OW.nil ?_
  refine E.then_n ?_
  refine E.CW.seq ?_
  refine E.CW.region ?_
  refine E.OW.pure rfl rfl rfl (E.PV.fieldAddr fa24_2 rfl rfl) ?_
  refine E.OW.pure rfl rfl rfl (E.PV.load (i := 0) na22 rfl rfl rfl rfl) ?_
  refine E.OW.pure rfl rfl rfl (E.PV.len Try.underlying22 rfl rfl) ?_
  refine E.OW.pure rfl rfl rfl (E.PV.gtr rfl rfl rfl) ?_
  refine E.OW.pure rfl rfl rfl (E.PV.assign rfl rfl) ?_
  refine E.OW.nil ?_
  refine E.then_n ?_
  refine E.CW.ret ?_
  refine E.KR.one [] Try.results56 rfl rfl ?_
  exact ⟨_, rfl, rfl⟩

set_option maxRecDepth 100000 in
theorem GtT_ok (m : E.Tm) (w0 : World) :
    Calls Try.prog 57 #[m.v] w0 (E.Post w0 (E.Old w0) fun v Hn => ∃ b : Bool, v = .bool b ∧ Hn = []) := by
  refine E.calls_of (vs := [m.v]) (H := []) Try.func57 Try.ntmps57 rfl rfl (E.HA.start w0) ?_
  refine E.CW.seq ?_
  refine E.CW.region ?_
  refine E.OW.box rfl rfl rfl rfl rfl rfl (fun B1 => ?_)
  refine E.OW.pure rfl rfl rfl (E.PV.assign rfl rfl) ?_
  refine E.OW.nil ?_
  refine E.then_n ?_
  refine E.CW.seq ?_
  refine E.CW.region ?_
  refine E.OW.pure rfl rfl rfl (E.PV.fieldAddr fa79_0 rfl rfl) ?_
  refine E.OW.pure rfl rfl rfl (E.PV.load (i := 0) na31 rfl rfl rfl rfl) ?_
  refine E.OW.pure rfl rfl rfl (E.PV.len Try.underlying31 rfl rfl) ?_
  refine E.OW.pure rfl rfl rfl (E.PV.gtr rfl rfl rfl) ?_
  refine E.OW.pure rfl rfl rfl (E.PV.move rfl rfl) ?_
  all_goals (refine E.OW.split 7 rfl (fun hc => ?_) (fun hc => ?_) <;> (try simp only [E.b0, E.b1, E.b2, E.b3, E.b4, E.b5, E.b6, E.b7, E.b8, E.b9, E.b10, E.b11, E.b12, E.b13, E.b14, E.b15, E.b16, E.b17, E.b18, E.b19, E.b20, reduceCtorEq] at hc) <;> (try (exfalso; first | assumption | contradiction | omega)))
  all_goals (first | (refine E.OW.off rfl rfl rfl ?_) | (refine E.OW.pure rfl rfl rfl (E.PV.fieldAddr fa79_1 rfl rfl) ?_))
  all_goals (first | (refine E.OW.off rfl rfl rfl ?_) | (refine E.OW.pure rfl rfl rfl (E.PV.load (i := 0) na31 rfl rfl rfl rfl) ?_))
  all_goals (first | (refine E.OW.off rfl rfl rfl ?_) | (refine E.OW.pure rfl rfl rfl (E.PV.len Try.underlying31 rfl rfl) ?_))
  all_goals (first | (refine E.OW.off rfl rfl rfl ?_) | (refine E.OW.pure rfl rfl rfl (E.PV.gtr rfl rfl rfl) ?_))
  all_goals (first | (refine E.OW.pure rfl rfl rfl (E.PV.pick_t rfl rfl rfl) ?_) | (refine E.OW.pure rfl rfl rfl (E.PV.pick_f rfl rfl rfl) ?_))
  all_goals (refine E.OW.pure rfl rfl rfl (E.PV.move rfl rfl) ?_)
  all_goals (first | (refine E.OW.put 13 (.bool true) (v := .bool true) rfl rfl ?_) | (refine E.OW.split 13 rfl (fun hc => ?_) (fun hc => ?_) <;> (try simp only [E.b0, E.b1, E.b2, E.b3, E.b4, E.b5, E.b6, E.b7, E.b8, E.b9, E.b10, E.b11, E.b12, E.b13, E.b14, E.b15, E.b16, E.b17, E.b18, E.b19, E.b20, reduceCtorEq] at hc) <;> (try (exfalso; first | assumption | contradiction | omega))))
  all_goals (first | (refine E.OW.off rfl rfl rfl ?_) | (refine E.OW.pure rfl rfl rfl (E.PV.fieldAddr fa79_2 rfl rfl) ?_))
  all_goals (first | (refine E.OW.off rfl rfl rfl ?_) | (refine E.OW.pure rfl rfl rfl (E.PV.load (i := 0) na31 rfl rfl rfl rfl) ?_))
  all_goals (first | (refine E.OW.off rfl rfl rfl ?_) | (refine E.OW.pure rfl rfl rfl (E.PV.len Try.underlying31 rfl rfl) ?_))
  all_goals (first | (refine E.OW.off rfl rfl rfl ?_) | (refine E.OW.pure rfl rfl rfl (E.PV.gtr rfl rfl rfl) ?_))
  all_goals (first | (refine E.OW.pure rfl rfl rfl (E.PV.pick_t rfl rfl rfl) ?_) | (refine E.OW.pure rfl rfl rfl (E.PV.pick_f rfl rfl rfl) ?_))
  all_goals (refine E.OW.pure rfl rfl rfl (E.PV.assign rfl rfl) ?_)
  all_goals (
    refine E.OW.nil ?_
    refine E.then_n ?_
    refine E.CW.ret ?_
    refine E.KR.one [] Try.results57 rfl rfl ?_
    exact ⟨_, rfl, rfl⟩)

set_option maxRecDepth 100000 in
theorem Gt_ok (g : E.Cfg) (w0 : World) (hg : g.rd w0 (E.Old w0)) (hgf : g.q.fit) :
    Calls Try.prog 19 #[g.v] w0 (E.Post w0 (E.Old w0) fun v Hn => ∃ b : Bool, v = .bool b ∧ Hn = []) := by
  obtain ⟨hX1, hX2, hX3, hX4⟩ := id hg
  have hgl := E.Cfg.fit_len hgf
  refine E.calls_of (vs := [g.v]) (H := []) Try.func19 Try.ntmps19 rfl rfl (E.HA.start w0) ?_
  refine E.CW.seq ?_
  refine E.CW.region ?_
  refine E.OW.box rfl rfl rfl rfl rfl rfl (fun B1 => ?_)
  refine E.OW.pure rfl rfl rfl (E.PV.assign rfl rfl) ?_
  refine E.OW.nil ?_
  refine E.then_n ?_
  refine E.CW.seq ?_
  refine E.CW.seq ?_
  refine E.CW.region ?_
  refine E.OW.pure rfl rfl rfl (E.PV.fieldAddr fa28_0 rfl rfl) ?_
  refine E.OW.pure rfl rfl rfl (E.PV.loads (i := 0) is24 rfl rfl rfl rfl) ?_
  (refine E.OW.call nm56 rfl rfl rfl rfl rfl rfl _ (fun w hw => GtF_ok _ _ _ _ _ w) ?_; rintro _ _ ⟨bF, rfl, rfl⟩)
  refine E.OW.pure rfl rfl rfl (E.PV.move rfl rfl) ?_
  all_goals (refine E.OW.split 7 rfl (fun hc => ?_) (fun hc => ?_) <;> (try simp only [E.b0, E.b1, E.b2, E.b3, E.b4, E.b5, E.b6, E.b7, E.b8, E.b9, E.b10, E.b11, E.b12, E.b13, E.b14, E.b15, E.b16, E.b17, E.b18, E.b19, E.b20, reduceCtorEq] at hc) <;> (try (exfalso; first | assumption | contradiction | omega)))
  all_goals (first | (refine E.OW.off rfl rfl rfl ?_) | (refine E.OW.pure rfl rfl rfl (E.PV.fieldAddr fa28_1 rfl rfl) ?_))
  all_goals (first | (refine E.OW.off rfl rfl rfl ?_) | (refine E.OW.pure rfl rfl rfl (E.PV.load (i := 0) na22 rfl rfl rfl rfl) ?_))
  all_goals (first | (refine E.OW.off rfl rfl rfl ?_) | (refine E.OW.pure rfl rfl rfl (E.PV.len Try.underlying22 rfl rfl) ?_))
  all_goals (first | (refine E.OW.off rfl rfl rfl ?_) | (refine E.OW.pure rfl rfl rfl (E.PV.gtr rfl rfl rfl) ?_))
  all_goals (first | (refine E.OW.pure rfl rfl rfl (E.PV.pick_t rfl rfl rfl) ?_) | (refine E.OW.pure rfl rfl rfl (E.PV.pick_f rfl rfl rfl) ?_))
  all_goals (refine E.OW.pure rfl rfl rfl (E.PV.move rfl rfl) ?_)
  all_goals (first | (refine E.OW.put 13 (.bool true) (v := .bool true) rfl rfl ?_) | (refine E.OW.split 13 rfl (fun hc => ?_) (fun hc => ?_) <;> (try simp only [E.b0, E.b1, E.b2, E.b3, E.b4, E.b5, E.b6, E.b7, E.b8, E.b9, E.b10, E.b11, E.b12, E.b13, E.b14, E.b15, E.b16, E.b17, E.b18, E.b19, E.b20, reduceCtorEq] at hc) <;> (try (exfalso; first | assumption | contradiction | omega))))
  all_goals (first | (refine E.OW.off rfl rfl rfl ?_) | (refine E.OW.pure rfl rfl rfl (E.PV.fieldAddr fa28_2 rfl rfl) ?_))
  all_goals (first | (refine E.OW.off rfl rfl rfl ?_) | (refine E.OW.pure rfl rfl rfl (E.PV.load (i := 0) na25 rfl rfl rfl rfl) ?_))
  all_goals (first | (refine E.OW.off rfl rfl rfl ?_) | (refine E.OW.pure rfl rfl rfl (E.PV.len Try.underlying25 rfl rfl) ?_))
  all_goals (first | (refine E.OW.off rfl rfl rfl ?_) | (refine E.OW.pure rfl rfl rfl (E.PV.gtr rfl rfl rfl) ?_))
  all_goals (first | (refine E.OW.pure rfl rfl rfl (E.PV.pick_t rfl rfl rfl) ?_) | (refine E.OW.pure rfl rfl rfl (E.PV.pick_f rfl rfl rfl) ?_))
  all_goals (
    refine E.OW.nil ?_
    refine E.then_n ?_
    refine E.CW.cond rfl (fun hc => ?_) (fun hc => ?_)
    · simp only [E.b0, E.b1, E.b2, E.b3, E.b4, E.b5, E.b6, E.b7, E.b8, E.b9, E.b10, E.b11, E.b12, E.b13, E.b14, E.b15, E.b16, E.b17, E.b18, E.b19, E.b20, reduceCtorEq] at hc
      all_goals (
        refine E.CW.seq ?_
        refine E.CW.region ?_
        refine E.OW.pure rfl rfl rfl (E.PV.assign rfl rfl) ?_
        refine E.OW.nil ?_
        refine E.then_n ?_
        refine E.CW.ret ?_
        refine E.then_ret ?_
        refine E.KR.one [] Try.results19 rfl rfl ?_
        exact ⟨_, rfl, rfl⟩)
    · first | ((cases hc; done)) | (simp only [E.b0, E.b1, E.b2, E.b3, E.b4, E.b5, E.b6, E.b7, E.b8, E.b9, E.b10, E.b11, E.b12, E.b13, E.b14, E.b15, E.b16, E.b17, E.b18, E.b19, E.b20, reduceCtorEq] at hc)
      all_goals (
        refine E.CW.skip ?_
        refine E.then_n ?_
        refine E.CW.seq ?_
        refine E.CW.seq ?_
        refine E.CW.region ?_
        refine E.OW.pure rfl rfl rfl (E.PV.assign rfl rfl) ?_
        refine E.OW.nil ?_
        refine E.then_n ?_
        refine E.CW.block ?_
        refine E.CW.loopk [1] 0 rfl rfl (fun mm mods Hm => ∃ k : Nat, mm = g.ts.length - k ∧ mods = [(3, .int .i64 k)] ∧ Hm = [] ∧ k ≤ g.ts.length) (g.ts.length) ?_ ?_
        · exact ⟨[(3, _)], (by repeat (first | exact E.cov_nil | refine ⟨rfl, ?_⟩)), 0, rfl, rfl, rfl, by omega⟩
        · rintro _ _ _ ⟨k, rfl, rfl, rfl, hk⟩
          refine E.CW.seq ?_
          refine E.CW.seq ?_
          refine E.CW.region ?_
          refine E.OW.pure rfl rfl rfl (E.PV.move rfl rfl) ?_
          refine E.OW.pure rfl rfl rfl (E.PV.fieldAddr fa28_2 rfl rfl) ?_
          refine E.OW.pure rfl rfl rfl (E.PV.load (i := 0) na25 rfl rfl rfl rfl) ?_
          refine E.OW.pure rfl rfl rfl (E.PV.len Try.underlying25 rfl rfl) ?_
          refine E.OW.pure rfl rfl rfl (E.PV.lss rfl rfl rfl) ?_
          refine E.OW.nil ?_
          refine E.then_n ?_
          refine E.CW.cond rfl (fun hc => ?_) (fun hc => ?_)
          · simp only [E.b0, E.b1, E.b2, E.b3, E.b4, E.b5, E.b6, E.b7, E.b8, E.b9, E.b10, E.b11, E.b12, E.b13, E.b14, E.b15, E.b16, E.b17, E.b18, E.b19, E.b20, reduceCtorEq] at hc
            all_goals (
              refine E.CW.skip ?_
              refine E.then_n ?_
              refine E.CW.seq ?_
              refine E.CW.block ?_
              refine E.CW.seq ?_
              refine E.CW.region ?_
              refine E.OW.pure rfl rfl rfl (E.PV.fieldAddr fa28_2 rfl rfl) ?_
              refine E.OW.pure rfl rfl rfl (E.PV.load (i := 0) na25 rfl rfl rfl rfl) ?_
              refine E.OW.pure rfl rfl rfl (E.PV.move rfl rfl) ?_
              refine E.OW.pure rfl rfl rfl (E.PV.indexAddr (E.rdc hX3) Try.underlying25 in79 rfl rfl rfl rfl ?_ ?_ (by decide)) ?_; (focus (first | (simp; done) | (simp; omega))); (focus (omega))
              refine E.OW.pure rfl rfl rfl (E.PV.load_tm (E.rdc hX3) is79 rfl rfl ?_) ?_; (focus (omega))
              (refine E.OW.call nm57 rfl rfl rfl rfl rfl rfl _ (fun w hw => GtT_ok _ w) ?_; rintro _ _ ⟨bT, rfl, rfl⟩)
              refine E.OW.nil ?_
              refine E.then_n ?_
              refine E.CW.cond rfl (fun hc => ?_) (fun hc => ?_)
              · skip
                all_goals (
                  refine E.CW.seq ?_
                  refine E.CW.region ?_
                  refine E.OW.pure rfl rfl rfl (E.PV.assign rfl rfl) ?_
                  refine E.OW.nil ?_
                  refine E.then_n ?_
                  refine E.CW.ret ?_
                  refine E.blk_ret ?_
                  refine E.then_ret ?_
                  refine E.then_ret ?_
                  refine E.blk_ret ?_
                  refine E.then_ret ?_
                  refine E.KR.one [] Try.results19 rfl rfl ?_
                  exact ⟨_, rfl, rfl⟩)
              · skip
                all_goals (
                  refine E.CW.skip ?_
                  refine E.blk_n ?_
                  refine E.then_n ?_
                  refine E.CW.region ?_
                  refine E.OW.pure rfl rfl rfl (E.PV.move rfl rfl) ?_
                  refine E.OW.pure rfl rfl rfl (E.PV.add_i64 rfl rfl rfl ?_) ?_; (focus (omega))
                  refine E.OW.pure rfl rfl rfl (E.PV.assign rfl rfl) ?_
                  refine E.OW.nil ?_
                  refine E.then_nf ?_
                  refine ⟨_, [(3, _)], [0], _, ?_, by repeat (first | exact E.cov_nil | refine ⟨rfl, ?_⟩), rfl, k + 1, rfl, rfl, rfl, by omega⟩
                  omega))
          · simp only [E.b0, E.b1, E.b2, E.b3, E.b4, E.b5, E.b6, E.b7, E.b8, E.b9, E.b10, E.b11, E.b12, E.b13, E.b14, E.b15, E.b16, E.b17, E.b18, E.b19, E.b20, reduceCtorEq] at hc
            all_goals (
              refine E.CW.exit ?_
              refine E.then_x ?_
              refine E.then_x ?_
              refine E.blk_eq ?_
              refine E.then_n ?_
              refine E.CW.seq ?_
              refine E.CW.region ?_
              refine E.OW.pure rfl rfl rfl (E.PV.assign rfl rfl) ?_
              refine E.OW.nil ?_
              refine E.then_n ?_
              refine E.CW.ret ?_
              refine E.KR.one [] Try.results19 rfl rfl ?_
              exact ⟨_, rfl, rfl⟩)))

set_option maxRecDepth 100000 in
theorem rAsk_ok (g : E.Cfg) (t tick : Int) (w0 : World) (hg : g.rd w0 (E.Old w0)) (hgf : g.q.fit) (ht : 0 ≤ tick ∧ tick < 18446744073709551616) :
    Calls Try.prog 68 #[g.v, .int .i64 t, .int .u64 tick] w0 (E.Post w0 (E.Old w0) fun v Hn => v = .int .i64 (Rt.asked g.q t tick) ∧ Hn = []) := by
  obtain ⟨hX1, hX2, hX3, hX4⟩ := id hg
  have hgl := E.Cfg.fit_len hgf
  refine E.calls_of (vs := [g.v, .int .i64 t, .int .u64 tick]) (H := []) Try.func68 Try.ntmps68 rfl rfl (E.HA.start w0) ?_
  refine E.CW.seq ?_
  refine E.CW.region ?_
  refine E.OW.box rfl rfl rfl rfl rfl rfl (fun B1 => ?_)
  refine E.OW.pure rfl rfl rfl (E.PV.assign rfl rfl) ?_
  refine E.OW.nil ?_
  refine E.then_n ?_
  refine E.CW.seq ?_
  refine E.CW.seq ?_
  refine E.CW.region ?_
  refine E.OW.pure rfl rfl rfl (E.PV.loads (i := 0) is28 rfl rfl rfl rfl) ?_
  (refine E.OW.call nm91 rfl rfl rfl rfl rfl rfl _ (fun w hw => rCk_ok _ w ?_ ?_) ?_; (focus (refine hw.rdC ?_; assumption)); (focus (assumption)); rintro _ _ ⟨rfl, rfl⟩)
  refine E.OW.pure rfl rfl rfl (E.PV.assign rfl rfl) ?_
  refine E.OW.nil ?_
  refine E.then_n ?_
  refine E.CW.seq ?_
  refine E.CW.region ?_
  refine E.OW.pure rfl rfl rfl (E.PV.move rfl rfl) ?_
  refine E.OW.pure rfl rfl rfl (E.PV.neq rfl rfl rfl) ?_
  refine E.OW.nil ?_
  refine E.then_n ?_
  refine E.CW.cond rfl (fun hc => ?_) (fun hc => ?_)
  · simp only [E.b0, E.b1, E.b2, E.b3, E.b4, E.b5, E.b6, E.b7, E.b8, E.b9, E.b10, E.b11, E.b12, E.b13, E.b14, E.b15, E.b16, E.b17, E.b18, E.b19, E.b20, reduceCtorEq] at hc
    all_goals (
      refine E.CW.seq ?_
      refine E.CW.region ?_
      refine E.OW.pure rfl rfl rfl (E.PV.move rfl rfl) ?_
      refine E.OW.pure rfl rfl rfl (E.PV.assign rfl rfl) ?_
      refine E.OW.nil ?_
      refine E.then_n ?_
      refine E.CW.ret ?_
      refine E.then_ret ?_
      refine E.KR.one [] Try.results68 rfl rfl ?_
      exact ⟨by rw [Rt.asked_bad (by assumption)], rfl⟩)
  · simp only [E.b0, E.b1, E.b2, E.b3, E.b4, E.b5, E.b6, E.b7, E.b8, E.b9, E.b10, E.b11, E.b12, E.b13, E.b14, E.b15, E.b16, E.b17, E.b18, E.b19, E.b20, reduceCtorEq] at hc
    all_goals (
      refine E.CW.skip ?_
      refine E.then_n ?_
      refine E.CW.seq ?_
      refine E.CW.seq ?_
      refine E.CW.region ?_
      refine E.OW.pure rfl rfl rfl (E.PV.loads (i := 0) is28 rfl rfl rfl rfl) ?_
      refine E.OW.pure rfl rfl rfl (E.PV.move rfl rfl) ?_
      (refine E.OW.call nm106 rfl rfl rfl rfl rfl rfl _ (fun w hw => rPr_ok _ _ w ?_ ?_) ?_; (focus (refine hw.rdC ?_; assumption)); (focus (assumption)); rintro _ _ ⟨rfl, rfl⟩)
      refine E.OW.pure rfl rfl rfl (E.PV.not rfl rfl) ?_
      refine E.OW.pure rfl rfl rfl (E.PV.move rfl rfl) ?_
      all_goals (refine E.OW.split 17 rfl (fun hc => ?_) (fun hc => ?_) <;> (try simp only [E.b0, E.b1, E.b2, E.b3, E.b4, E.b5, E.b6, E.b7, E.b8, E.b9, E.b10, E.b11, E.b12, E.b13, E.b14, E.b15, E.b16, E.b17, E.b18, E.b19, E.b20, reduceCtorEq] at hc) <;> (try (exfalso; first | assumption | contradiction | omega)))
      all_goals (first | (refine E.OW.off rfl rfl rfl ?_) | (refine E.OW.pure rfl rfl rfl (E.PV.move rfl rfl) ?_))
      all_goals (first | (refine E.OW.off rfl rfl rfl ?_) | (refine E.OW.pure rfl rfl rfl (E.PV.gtr rfl rfl rfl) ?_))
      all_goals (first | (refine E.OW.pure rfl rfl rfl (E.PV.pick_t rfl rfl rfl) ?_) | (refine E.OW.pure rfl rfl rfl (E.PV.pick_f rfl rfl rfl) ?_))
      all_goals (
        refine E.OW.nil ?_
        refine E.then_n ?_
        refine E.CW.cond rfl (fun hc => ?_) (fun hc => ?_)
        · simp only [E.b0, E.b1, E.b2, E.b3, E.b4, E.b5, E.b6, E.b7, E.b8, E.b9, E.b10, E.b11, E.b12, E.b13, E.b14, E.b15, E.b16, E.b17, E.b18, E.b19, E.b20, reduceCtorEq] at hc
          all_goals (
            refine E.CW.seq ?_
            refine E.CW.region ?_
            refine E.OW.pure rfl rfl rfl (E.PV.assign rfl rfl) ?_
            refine E.OW.nil ?_
            refine E.then_n ?_
            refine E.CW.ret ?_
            refine E.then_ret ?_
            refine E.KR.one [] Try.results68 rfl rfl ?_
            exact ⟨by rw [Rt.asked_arg (by assumption) (by first | (left; assumption) | (right; omega))], rfl⟩)
        · first | ((cases hc; done)) | (simp only [E.b0, E.b1, E.b2, E.b3, E.b4, E.b5, E.b6, E.b7, E.b8, E.b9, E.b10, E.b11, E.b12, E.b13, E.b14, E.b15, E.b16, E.b17, E.b18, E.b19, E.b20, reduceCtorEq] at hc)
          all_goals (
            refine E.CW.skip ?_
            refine E.then_n ?_
            refine E.CW.seq ?_
            refine E.CW.region ?_
            refine E.OW.pure rfl rfl rfl (E.PV.assign rfl rfl) ?_
            refine E.OW.nil ?_
            refine E.then_n ?_
            refine E.CW.ret ?_
            refine E.KR.one [] Try.results68 rfl rfl ?_
            exact ⟨by rw [Rt.asked_ok (by assumption) (by assumption) (by omega)], rfl⟩)))

set_option maxRecDepth 100000 in
theorem rAl_ok (g : E.Cfg) (t p tick : Int) (w0 : World) (hg : g.rd w0 (E.Old w0)) (hgf : g.q.fit) (ht : 0 ≤ tick ∧ tick < 18446744073709551616) (hTn : Rt.Ten g.q t) (hp : 0 ≤ p ∧ p < (g.l.length : Int)) :
    Calls Try.prog 76 #[g.v, .int .i64 t, .int .i64 p, .int .u64 tick] w0 (E.Post w0 (E.Old w0) fun v Hn => v = .bool (Rt.allows g.q t p tick) ∧ Hn = []) := by
  obtain ⟨hX1, hX2, hX3, hX4⟩ := id hg
  have hgl := E.Cfg.fit_len hgf
  obtain ⟨ht0, ht3, htn⟩ := hTn.ten
  have hs16 : 1 ≤ g.s.length ∧ g.s.length ≤ 16 := Rt.per_of hTn.c
  have hal : Rt.allows g.q t p tick = (Fl.own t (g.l.getD p.toNat 0) || (decide (Fl.ownerC (g.l.getD p.toNat 0) = -2) && decide (Fl.sown g.s tick 0 = t))) := by
    rw [Rt.allows_mine hTn.c, Rt.mine_ref (g := g.q) (t := t) hTn.c hp ⟨ht0, ht3⟩, Rt.aisle_ref (g := g.q) hTn.c hp]; rfl
  refine E.calls_of (vs := [g.v, .int .i64 t, .int .i64 p, .int .u64 tick]) (H := []) Try.func76 Try.ntmps76 rfl rfl (E.HA.start w0) ?_
  refine E.CW.seq ?_
  refine E.CW.region ?_
  refine E.OW.box rfl rfl rfl rfl rfl rfl (fun B1 => ?_)
  refine E.OW.pure rfl rfl rfl (E.PV.assign rfl rfl) ?_
  refine E.OW.nil ?_
  refine E.then_n ?_
  refine E.CW.seq ?_
  refine E.CW.seq ?_
  refine E.CW.region ?_
  refine E.OW.pure rfl rfl rfl (E.PV.fieldAddr fa28_0 rfl rfl) ?_
  refine E.OW.pure rfl rfl rfl (E.PV.loads (i := 0) is24 rfl rfl rfl rfl) ?_
  refine E.OW.pure rfl rfl rfl (E.PV.move rfl rfl) ?_
  refine E.OW.pure rfl rfl rfl (E.PV.move rfl rfl) ?_
  (refine E.OW.call nm93 rfl rfl rfl rfl rfl rfl _ (fun w hw => rOwn_ok _ _ _ _ _ _ _ w ?_ ?_) ?_; (focus (assumption)); (focus (refine hw.rd ?_; assumption)); rintro _ _ ⟨rfl, rfl⟩)
  refine E.OW.nil ?_
  refine E.then_n ?_
  refine E.CW.cond rfl (fun hc => ?_) (fun hc => ?_)
  · skip
    all_goals (
      refine E.CW.seq ?_
      refine E.CW.region ?_
      refine E.OW.pure rfl rfl rfl (E.PV.assign rfl rfl) ?_
      refine E.OW.nil ?_
      refine E.then_n ?_
      refine E.CW.ret ?_
      refine E.then_ret ?_
      refine E.KR.one [] Try.results76 rfl rfl ?_
      exact ⟨congrArg Value.bool (by rw [hal]; first | (simp_all; done) | (simp_all; rfl)), rfl⟩)
  · skip
    all_goals (
      refine E.CW.skip ?_
      refine E.then_n ?_
      refine E.CW.seq ?_
      refine E.CW.region ?_
      refine E.OW.pure rfl rfl rfl (E.PV.fieldAddr fa28_0 rfl rfl) ?_
      refine E.OW.pure rfl rfl rfl (E.PV.loads (i := 0) is24 rfl rfl rfl rfl) ?_
      refine E.OW.pure rfl rfl rfl (E.PV.move rfl rfl) ?_
      (refine E.OW.call nm94 rfl rfl rfl rfl rfl rfl _ (fun w hw => rAisle_ok _ _ _ _ _ _ w ?_ ?_) ?_; (focus (assumption)); (focus (refine hw.rd ?_; assumption)); rintro _ _ ⟨rfl, rfl⟩)
      refine E.OW.pure rfl rfl rfl (E.PV.move rfl rfl) ?_
      all_goals (refine E.OW.split 18 rfl (fun hc => ?_) (fun hc => ?_) <;> (try simp only [E.b0, E.b1, E.b2, E.b3, E.b4, E.b5, E.b6, E.b7, E.b8, E.b9, E.b10, E.b11, E.b12, E.b13, E.b14, E.b15, E.b16, E.b17, E.b18, E.b19, E.b20, reduceCtorEq] at hc) <;> (try (exfalso; first | assumption | contradiction | omega)))
      all_goals (first | (refine E.OW.off rfl rfl rfl ?_) | (refine E.OW.pure rfl rfl rfl (E.PV.fieldAddr fa28_1 rfl rfl) ?_))
      all_goals (first | (refine E.OW.off rfl rfl rfl ?_) | (refine E.OW.pure rfl rfl rfl (E.PV.load (i := 0) na22 rfl rfl rfl rfl) ?_))
      all_goals (first | (refine E.OW.off rfl rfl rfl ?_) | (refine E.OW.pure rfl rfl rfl (E.PV.move rfl rfl) ?_))
      all_goals (first | (refine E.OW.off rfl rfl rfl ?_) | ((refine E.OW.call nm108 rfl rfl rfl rfl rfl rfl _ (fun w hw => rSliceOwner_ok _ _ _ _ ?_ w ?_ ?_) ?_; (focus (assumption)); (focus (assumption)); (focus (refine hw.rd ?_; assumption)); rintro _ _ ⟨rfl, rfl⟩)))
      all_goals (first | (refine E.OW.off rfl rfl rfl ?_) | (refine E.OW.pure rfl rfl rfl (E.PV.move rfl rfl) ?_))
      all_goals (first | (refine E.OW.off rfl rfl rfl ?_) | (refine E.OW.pure rfl rfl rfl (E.PV.eql rfl rfl rfl) ?_))
      all_goals (first | (refine E.OW.pure rfl rfl rfl (E.PV.pick_t rfl rfl rfl) ?_) | (refine E.OW.pure rfl rfl rfl (E.PV.pick_f rfl rfl rfl) ?_))
      all_goals (refine E.OW.pure rfl rfl rfl (E.PV.assign rfl rfl) ?_)
      all_goals (
        refine E.OW.nil ?_
        refine E.then_n ?_
        refine E.CW.ret ?_
        refine E.KR.one [] Try.results76 rfl rfl ?_
        exact ⟨congrArg Value.bool (by rw [hal]; first | (simp_all; done) | (simp_all; rfl)), rfl⟩))

set_option maxRecDepth 100000 in
theorem rIl_ok (g : E.Cfg) (t a b : Int) (w0 : World) (hg : g.rd w0 (E.Old w0)) (hgf : g.q.fit) (hTn : Rt.Ten g.q t) :
    Calls Try.prog 50 #[g.v, .int .i64 t, .agg #[.int .i64 a, .int .i64 b]] w0 (E.Post w0 (E.Old w0) fun v Hn => v = .bool (Rt.onLeg g.q t a b) ∧ Hn = []) := by
  obtain ⟨hX1, hX2, hX3, hX4⟩ := id hg
  have hgl := E.Cfg.fit_len hgf
  obtain ⟨ht0, ht3, htn⟩ := hTn.ten
  have hs16 : 1 ≤ g.s.length ∧ g.s.length ≤ 16 := Rt.per_of hTn.c
  have hol : Rt.on g.q a = true → Rt.on g.q b = true → Rt.onLeg g.q t a b = (Fl.own t (g.l.getD b.toNat 0) && (Fl.own t (g.l.getD a.toNat 0) || decide (Fl.ownerC (g.l.getD a.toNat 0) = -2))) := fun h1 h2 => Rt.onLeg_ref hTn h1 h2
  refine E.calls_of (vs := [g.v, .int .i64 t, .agg #[.int .i64 a, .int .i64 b]]) (H := []) Try.func50 Try.ntmps50 rfl rfl (E.HA.start w0) ?_
  refine E.CW.seq ?_
  refine E.CW.region ?_
  refine E.OW.box rfl rfl rfl rfl rfl rfl (fun B1 => ?_)
  refine E.OW.box rfl rfl rfl rfl rfl rfl (fun B2 => ?_)
  refine E.OW.pure rfl rfl rfl (E.PV.assign rfl rfl) ?_
  refine E.OW.nil ?_
  refine E.then_n ?_
  refine E.CW.seq ?_
  refine E.CW.seq ?_
  rcases Bool.eq_false_or_eq_true (Rt.on g.q a) with hoa | hoa
  all_goals rcases Bool.eq_false_or_eq_true (Rt.on g.q b) with hob | hob
  · skip
    refine E.CW.region ?_
    refine E.OW.pure rfl rfl rfl (E.PV.loads (i := 1) is28 rfl rfl rfl rfl) ?_
    refine E.OW.pure rfl rfl rfl (E.PV.fieldAddr fa30_0 rfl rfl) ?_
    refine E.OW.pure rfl rfl rfl (E.PV.load (i := 0) na3 rfl rfl rfl rfl) ?_
    (refine E.OW.call nm62 rfl rfl rfl rfl rfl rfl _ (fun w hw => rOn_ok g a w ?_ ?_) ?_; (focus (refine hw.rdC ?_; assumption)); (focus (assumption)); rintro _ _ ⟨rfl, rfl⟩)
    refine E.OW.pure rfl rfl rfl (E.PV.not rfl rfl) ?_
    refine E.OW.pure rfl rfl rfl (E.PV.move rfl rfl) ?_
    all_goals (refine E.OW.put 12 (.bool false) rfl (congrArg Value.bool ?_) ?_; (focus ((simp only [E.b0, E.b1, E.b2, E.b3, E.b4, E.b5, E.b6, E.b7, E.b8, E.b9, E.b10, E.b11, E.b12, E.b13, E.b14, E.b15, E.b16, E.b17, E.b18, E.b19, E.b20]; omega))))
    all_goals (refine E.OW.pure rfl rfl rfl (E.PV.loads (i := 1) is28 rfl rfl rfl rfl) ?_)
    all_goals (refine E.OW.pure rfl rfl rfl (E.PV.fieldAddr fa30_1 rfl rfl) ?_)
    all_goals (refine E.OW.pure rfl rfl rfl (E.PV.load (i := 0) na3 rfl rfl rfl rfl) ?_)
    all_goals ((refine E.OW.call nm62 rfl rfl rfl rfl rfl rfl _ (fun w hw => rOn_ok g b w ?_ ?_) ?_; (focus (refine hw.rdC ?_; assumption)); (focus (assumption)); rintro _ _ ⟨rfl, rfl⟩))
    all_goals (refine E.OW.pure rfl rfl rfl (E.PV.not rfl rfl) ?_)
    all_goals (refine E.OW.pure rfl rfl rfl (E.PV.pick_f rfl rfl rfl) ?_)
    all_goals (refine E.OW.pure rfl rfl rfl (E.PV.move rfl rfl) ?_)
    all_goals (refine E.OW.put 19 (.bool false) rfl (congrArg Value.bool ?_) ?_; (focus ((simp only [E.b0, E.b1, E.b2, E.b3, E.b4, E.b5, E.b6, E.b7, E.b8, E.b9, E.b10, E.b11, E.b12, E.b13, E.b14, E.b15, E.b16, E.b17, E.b18, E.b19, E.b20]; omega))))
    all_goals (refine E.OW.pure rfl rfl rfl (E.PV.fieldAddr fa28_0 rfl rfl) ?_)
    all_goals (refine E.OW.pure rfl rfl rfl (E.PV.loads (i := 1) is24 rfl rfl rfl rfl) ?_)
    all_goals (refine E.OW.pure rfl rfl rfl (E.PV.move rfl rfl) ?_)
    all_goals (refine E.OW.pure rfl rfl rfl (E.PV.fieldAddr fa30_1 rfl rfl) ?_)
    all_goals (refine E.OW.pure rfl rfl rfl (E.PV.load (i := 0) na3 rfl rfl rfl rfl) ?_)
    all_goals ((refine E.OW.call nm93 rfl rfl rfl rfl rfl rfl _ (fun w hw => rOwn_ok _ _ _ _ g.l t b w (Rt.on_iff.1 hob) ?_) ?_; (focus (refine hw.rd ?_; assumption)); rintro _ _ ⟨rfl, rfl⟩))
    all_goals (refine E.OW.pure rfl rfl rfl (E.PV.not rfl rfl) ?_)
    all_goals (refine E.OW.pure rfl rfl rfl (E.PV.pick_f rfl rfl rfl) ?_)
    all_goals (
      refine E.OW.nil ?_
      refine E.then_n ?_
      refine E.CW.cond rfl (fun hc => ?_) (fun hc => ?_)
      · simp only [E.b0, E.b1, E.b2, E.b3, E.b4, E.b5, E.b6, E.b7, E.b8, E.b9, E.b10, E.b11, E.b12, E.b13, E.b14, E.b15, E.b16, E.b17, E.b18, E.b19, E.b20, reduceCtorEq] at hc
        all_goals (
          refine E.CW.seq ?_
          refine E.CW.region ?_
          refine E.OW.pure rfl rfl rfl (E.PV.assign rfl rfl) ?_
          refine E.OW.nil ?_
          refine E.then_n ?_
          refine E.CW.ret ?_
          refine E.then_ret ?_
          refine E.KR.one [] Try.results50 rfl rfl ?_
          exact ⟨congrArg Value.bool (by first | exact (Rt.onLeg_off hTn (.inl hoa)).symm | exact (Rt.onLeg_off hTn (.inr hob)).symm | (rw [hol hoa hob]; first | (simp_all; done) | (simp_all; rfl))), rfl⟩)
      · simp only [E.b0, E.b1, E.b2, E.b3, E.b4, E.b5, E.b6, E.b7, E.b8, E.b9, E.b10, E.b11, E.b12, E.b13, E.b14, E.b15, E.b16, E.b17, E.b18, E.b19, E.b20, reduceCtorEq] at hc
        all_goals (
          refine E.CW.skip ?_
          refine E.then_n ?_
          refine E.CW.seq ?_
          skip
          refine E.CW.region ?_
          refine E.OW.pure rfl rfl rfl (E.PV.fieldAddr fa28_0 rfl rfl) ?_
          refine E.OW.pure rfl rfl rfl (E.PV.loads (i := 1) is24 rfl rfl rfl rfl) ?_
          refine E.OW.pure rfl rfl rfl (E.PV.move rfl rfl) ?_
          refine E.OW.pure rfl rfl rfl (E.PV.fieldAddr fa30_0 rfl rfl) ?_
          refine E.OW.pure rfl rfl rfl (E.PV.load (i := 0) na3 rfl rfl rfl rfl) ?_
          (refine E.OW.call nm93 rfl rfl rfl rfl rfl rfl _ (fun w hw => rOwn_ok _ _ _ _ g.l t a w (Rt.on_iff.1 hoa) ?_) ?_; (focus (refine hw.rd ?_; assumption)); rintro _ _ ⟨rfl, rfl⟩)
          refine E.OW.pure rfl rfl rfl (E.PV.move rfl rfl) ?_
          all_goals (refine E.OW.split 34 rfl (fun hc => ?_) (fun hc => ?_) <;> (try simp only [E.b0, E.b1, E.b2, E.b3, E.b4, E.b5, E.b6, E.b7, E.b8, E.b9, E.b10, E.b11, E.b12, E.b13, E.b14, E.b15, E.b16, E.b17, E.b18, E.b19, E.b20, reduceCtorEq] at hc) <;> (try (exfalso; first | assumption | contradiction | omega)))
          all_goals (first | (refine E.OW.off rfl rfl rfl ?_) | (refine E.OW.pure rfl rfl rfl (E.PV.fieldAddr fa28_0 rfl rfl) ?_))
          all_goals (first | (refine E.OW.off rfl rfl rfl ?_) | (refine E.OW.pure rfl rfl rfl (E.PV.loads (i := 1) is24 rfl rfl rfl rfl) ?_))
          all_goals (first | (refine E.OW.off rfl rfl rfl ?_) | (refine E.OW.pure rfl rfl rfl (E.PV.fieldAddr fa30_0 rfl rfl) ?_))
          all_goals (first | (refine E.OW.off rfl rfl rfl ?_) | (refine E.OW.pure rfl rfl rfl (E.PV.load (i := 0) na3 rfl rfl rfl rfl) ?_))
          all_goals (first | (refine E.OW.off rfl rfl rfl ?_) | ((refine E.OW.call nm94 rfl rfl rfl rfl rfl rfl _ (fun w hw => rAisle_ok _ _ _ _ g.l a w (Rt.on_iff.1 hoa) ?_) ?_; (focus (refine hw.rd ?_; assumption)); rintro _ _ ⟨rfl, rfl⟩)))
          all_goals (first | (refine E.OW.pure rfl rfl rfl (E.PV.pick_t rfl rfl rfl) ?_) | (refine E.OW.pure rfl rfl rfl (E.PV.pick_f rfl rfl rfl) ?_))
          all_goals (refine E.OW.pure rfl rfl rfl (E.PV.assign rfl rfl) ?_)
          all_goals (
            refine E.OW.nil ?_
            refine E.then_n ?_
            refine E.CW.ret ?_
            refine E.KR.one [] Try.results50 rfl rfl ?_
            exact ⟨congrArg Value.bool (by rw [hol hoa hob]; first | (simp_all; done) | (simp_all; rfl)), rfl⟩)))
  · skip
    refine E.CW.region ?_
    refine E.OW.pure rfl rfl rfl (E.PV.loads (i := 1) is28 rfl rfl rfl rfl) ?_
    refine E.OW.pure rfl rfl rfl (E.PV.fieldAddr fa30_0 rfl rfl) ?_
    refine E.OW.pure rfl rfl rfl (E.PV.load (i := 0) na3 rfl rfl rfl rfl) ?_
    (refine E.OW.call nm62 rfl rfl rfl rfl rfl rfl _ (fun w hw => rOn_ok g a w ?_ ?_) ?_; (focus (refine hw.rdC ?_; assumption)); (focus (assumption)); rintro _ _ ⟨rfl, rfl⟩)
    refine E.OW.pure rfl rfl rfl (E.PV.not rfl rfl) ?_
    refine E.OW.pure rfl rfl rfl (E.PV.move rfl rfl) ?_
    all_goals (refine E.OW.put 12 (.bool false) rfl (congrArg Value.bool ?_) ?_; (focus ((simp only [E.b0, E.b1, E.b2, E.b3, E.b4, E.b5, E.b6, E.b7, E.b8, E.b9, E.b10, E.b11, E.b12, E.b13, E.b14, E.b15, E.b16, E.b17, E.b18, E.b19, E.b20]; omega))))
    all_goals (refine E.OW.pure rfl rfl rfl (E.PV.loads (i := 1) is28 rfl rfl rfl rfl) ?_)
    all_goals (refine E.OW.pure rfl rfl rfl (E.PV.fieldAddr fa30_1 rfl rfl) ?_)
    all_goals (refine E.OW.pure rfl rfl rfl (E.PV.load (i := 0) na3 rfl rfl rfl rfl) ?_)
    all_goals ((refine E.OW.call nm62 rfl rfl rfl rfl rfl rfl _ (fun w hw => rOn_ok g b w ?_ ?_) ?_; (focus (refine hw.rdC ?_; assumption)); (focus (assumption)); rintro _ _ ⟨rfl, rfl⟩))
    all_goals (refine E.OW.pure rfl rfl rfl (E.PV.not rfl rfl) ?_)
    all_goals (refine E.OW.pure rfl rfl rfl (E.PV.pick_f rfl rfl rfl) ?_)
    all_goals (refine E.OW.pure rfl rfl rfl (E.PV.move rfl rfl) ?_)
    all_goals (refine E.OW.put 19 (.bool true) rfl (congrArg Value.bool ?_) ?_; (focus ((simp only [E.b0, E.b1, E.b2, E.b3, E.b4, E.b5, E.b6, E.b7, E.b8, E.b9, E.b10, E.b11, E.b12, E.b13, E.b14, E.b15, E.b16, E.b17, E.b18, E.b19, E.b20]; omega))))
    all_goals (refine E.OW.off rfl rfl rfl ?_)
    all_goals (refine E.OW.off rfl rfl rfl ?_)
    all_goals (refine E.OW.off rfl rfl rfl ?_)
    all_goals (refine E.OW.off rfl rfl rfl ?_)
    all_goals (refine E.OW.off rfl rfl rfl ?_)
    all_goals (refine E.OW.off rfl rfl rfl ?_)
    all_goals (refine E.OW.off rfl rfl rfl ?_)
    all_goals (refine E.OW.pure rfl rfl rfl (E.PV.pick_t rfl rfl rfl) ?_)
    all_goals (
      refine E.OW.nil ?_
      refine E.then_n ?_
      refine E.CW.cond rfl (fun hc => ?_) (fun hc => ?_)
      · simp only [E.b0, E.b1, E.b2, E.b3, E.b4, E.b5, E.b6, E.b7, E.b8, E.b9, E.b10, E.b11, E.b12, E.b13, E.b14, E.b15, E.b16, E.b17, E.b18, E.b19, E.b20, reduceCtorEq] at hc
        all_goals (
          refine E.CW.seq ?_
          refine E.CW.region ?_
          refine E.OW.pure rfl rfl rfl (E.PV.assign rfl rfl) ?_
          refine E.OW.nil ?_
          refine E.then_n ?_
          refine E.CW.ret ?_
          refine E.then_ret ?_
          refine E.KR.one [] Try.results50 rfl rfl ?_
          exact ⟨congrArg Value.bool (by first | exact (Rt.onLeg_off hTn (.inl hoa)).symm | exact (Rt.onLeg_off hTn (.inr hob)).symm | (rw [hol hoa hob]; first | (simp_all; done) | (simp_all; rfl))), rfl⟩)
      · (cases hc; done))
  · skip
    refine E.CW.region ?_
    refine E.OW.pure rfl rfl rfl (E.PV.loads (i := 1) is28 rfl rfl rfl rfl) ?_
    refine E.OW.pure rfl rfl rfl (E.PV.fieldAddr fa30_0 rfl rfl) ?_
    refine E.OW.pure rfl rfl rfl (E.PV.load (i := 0) na3 rfl rfl rfl rfl) ?_
    (refine E.OW.call nm62 rfl rfl rfl rfl rfl rfl _ (fun w hw => rOn_ok g a w ?_ ?_) ?_; (focus (refine hw.rdC ?_; assumption)); (focus (assumption)); rintro _ _ ⟨rfl, rfl⟩)
    refine E.OW.pure rfl rfl rfl (E.PV.not rfl rfl) ?_
    refine E.OW.pure rfl rfl rfl (E.PV.move rfl rfl) ?_
    all_goals (refine E.OW.put 12 (.bool true) rfl (congrArg Value.bool ?_) ?_; (focus ((simp only [E.b0, E.b1, E.b2, E.b3, E.b4, E.b5, E.b6, E.b7, E.b8, E.b9, E.b10, E.b11, E.b12, E.b13, E.b14, E.b15, E.b16, E.b17, E.b18, E.b19, E.b20]; omega))))
    all_goals (refine E.OW.off rfl rfl rfl ?_)
    all_goals (refine E.OW.off rfl rfl rfl ?_)
    all_goals (refine E.OW.off rfl rfl rfl ?_)
    all_goals (refine E.OW.off rfl rfl rfl ?_)
    all_goals (refine E.OW.off rfl rfl rfl ?_)
    all_goals (refine E.OW.pure rfl rfl rfl (E.PV.pick_t rfl rfl rfl) ?_)
    all_goals (refine E.OW.pure rfl rfl rfl (E.PV.move rfl rfl) ?_)
    all_goals (refine E.OW.put 19 (.bool true) (v := .bool true) rfl rfl ?_)
    all_goals (refine E.OW.off rfl rfl rfl ?_)
    all_goals (refine E.OW.off rfl rfl rfl ?_)
    all_goals (refine E.OW.off rfl rfl rfl ?_)
    all_goals (refine E.OW.off rfl rfl rfl ?_)
    all_goals (refine E.OW.off rfl rfl rfl ?_)
    all_goals (refine E.OW.off rfl rfl rfl ?_)
    all_goals (refine E.OW.off rfl rfl rfl ?_)
    all_goals (refine E.OW.pure rfl rfl rfl (E.PV.pick_t rfl rfl rfl) ?_)
    all_goals (
      refine E.OW.nil ?_
      refine E.then_n ?_
      refine E.CW.cond rfl (fun hc => ?_) (fun hc => ?_)
      · simp only [E.b0, E.b1, E.b2, E.b3, E.b4, E.b5, E.b6, E.b7, E.b8, E.b9, E.b10, E.b11, E.b12, E.b13, E.b14, E.b15, E.b16, E.b17, E.b18, E.b19, E.b20, reduceCtorEq] at hc
        all_goals (
          refine E.CW.seq ?_
          refine E.CW.region ?_
          refine E.OW.pure rfl rfl rfl (E.PV.assign rfl rfl) ?_
          refine E.OW.nil ?_
          refine E.then_n ?_
          refine E.CW.ret ?_
          refine E.then_ret ?_
          refine E.KR.one [] Try.results50 rfl rfl ?_
          exact ⟨congrArg Value.bool (by first | exact (Rt.onLeg_off hTn (.inl hoa)).symm | exact (Rt.onLeg_off hTn (.inr hob)).symm | (rw [hol hoa hob]; first | (simp_all; done) | (simp_all; rfl))), rfl⟩)
      · (cases hc; done))
  · skip
    refine E.CW.region ?_
    refine E.OW.pure rfl rfl rfl (E.PV.loads (i := 1) is28 rfl rfl rfl rfl) ?_
    refine E.OW.pure rfl rfl rfl (E.PV.fieldAddr fa30_0 rfl rfl) ?_
    refine E.OW.pure rfl rfl rfl (E.PV.load (i := 0) na3 rfl rfl rfl rfl) ?_
    (refine E.OW.call nm62 rfl rfl rfl rfl rfl rfl _ (fun w hw => rOn_ok g a w ?_ ?_) ?_; (focus (refine hw.rdC ?_; assumption)); (focus (assumption)); rintro _ _ ⟨rfl, rfl⟩)
    refine E.OW.pure rfl rfl rfl (E.PV.not rfl rfl) ?_
    refine E.OW.pure rfl rfl rfl (E.PV.move rfl rfl) ?_
    all_goals (refine E.OW.put 12 (.bool true) rfl (congrArg Value.bool ?_) ?_; (focus ((simp only [E.b0, E.b1, E.b2, E.b3, E.b4, E.b5, E.b6, E.b7, E.b8, E.b9, E.b10, E.b11, E.b12, E.b13, E.b14, E.b15, E.b16, E.b17, E.b18, E.b19, E.b20]; omega))))
    all_goals (refine E.OW.off rfl rfl rfl ?_)
    all_goals (refine E.OW.off rfl rfl rfl ?_)
    all_goals (refine E.OW.off rfl rfl rfl ?_)
    all_goals (refine E.OW.off rfl rfl rfl ?_)
    all_goals (refine E.OW.off rfl rfl rfl ?_)
    all_goals (refine E.OW.pure rfl rfl rfl (E.PV.pick_t rfl rfl rfl) ?_)
    all_goals (refine E.OW.pure rfl rfl rfl (E.PV.move rfl rfl) ?_)
    all_goals (refine E.OW.put 19 (.bool true) (v := .bool true) rfl rfl ?_)
    all_goals (refine E.OW.off rfl rfl rfl ?_)
    all_goals (refine E.OW.off rfl rfl rfl ?_)
    all_goals (refine E.OW.off rfl rfl rfl ?_)
    all_goals (refine E.OW.off rfl rfl rfl ?_)
    all_goals (refine E.OW.off rfl rfl rfl ?_)
    all_goals (refine E.OW.off rfl rfl rfl ?_)
    all_goals (refine E.OW.off rfl rfl rfl ?_)
    all_goals (refine E.OW.pure rfl rfl rfl (E.PV.pick_t rfl rfl rfl) ?_)
    all_goals (
      refine E.OW.nil ?_
      refine E.then_n ?_
      refine E.CW.cond rfl (fun hc => ?_) (fun hc => ?_)
      · simp only [E.b0, E.b1, E.b2, E.b3, E.b4, E.b5, E.b6, E.b7, E.b8, E.b9, E.b10, E.b11, E.b12, E.b13, E.b14, E.b15, E.b16, E.b17, E.b18, E.b19, E.b20, reduceCtorEq] at hc
        all_goals (
          refine E.CW.seq ?_
          refine E.CW.region ?_
          refine E.OW.pure rfl rfl rfl (E.PV.assign rfl rfl) ?_
          refine E.OW.nil ?_
          refine E.then_n ?_
          refine E.CW.ret ?_
          refine E.then_ret ?_
          refine E.KR.one [] Try.results50 rfl rfl ?_
          exact ⟨congrArg Value.bool (by first | exact (Rt.onLeg_off hTn (.inl hoa)).symm | exact (Rt.onLeg_off hTn (.inr hob)).symm | (rw [hol hoa hob]; first | (simp_all; done) | (simp_all; rfl))), rfl⟩)
      · (cases hc; done))
end Go.Proofs.Ytflkbabhbnmajaa

/- Closed facts on the program (printed by gen.py). -/
namespace Go.Proofs.Ytflkbabhbnmajaa
open Go Go.RowKit
set_option linter.unusedSimpArgs false
set_option linter.unusedVariables false
theorem nm104 : E.Nm Try.prog 104 := ⟨Try.f104, Try.func104, rfl, by kernel_rfl⟩
theorem nm50 : E.Nm Try.prog 50 := ⟨Try.f50, Try.func50, rfl, by kernel_rfl⟩
theorem nm61 : E.Nm Try.prog 61 := ⟨Try.f61, Try.func61, rfl, by kernel_rfl⟩
theorem nm64 : E.Nm Try.prog 64 := ⟨Try.f64, Try.func64, rfl, by kernel_rfl⟩
theorem nm68 : E.Nm Try.prog 68 := ⟨Try.f68, Try.func68, rfl, by kernel_rfl⟩
theorem nm76 : E.Nm Try.prog 76 := ⟨Try.f76, Try.func76, rfl, by kernel_rfl⟩
theorem nm77 : E.Nm Try.prog 77 := ⟨Try.f77, Try.func77, rfl, by kernel_rfl⟩
end Go.Proofs.Ytflkbabhbnmajaa

/- Walks (printed by gen.py). -/
namespace Go.Proofs.Ytflkbabhbnmajaa
open Go Go.RowKit
set_option linter.unusedSimpArgs false
set_option linter.unusedVariables false

set_option maxRecDepth 100000 in
theorem rLe_ok (g : E.Cfg) (t a b tick : Int) (w0 : World) (hg : g.rd w0 (E.Old w0)) (hgf : g.q.fit) (ht : 0 ≤ tick ∧ tick < 18446744073709551616) :
    Calls Try.prog 61 #[g.v, .int .i64 t, .agg #[.int .i64 a, .int .i64 b], .int .u64 tick] w0 (E.Post w0 (E.Old w0) fun v Hn => v = .int .i64 (Rt.legE g.q t a b tick) ∧ Hn = []) := by
  obtain ⟨hX1, hX2, hX3, hX4⟩ := id hg
  have hgl := E.Cfg.fit_len hgf
  refine E.calls_of (vs := [g.v, .int .i64 t, .agg #[.int .i64 a, .int .i64 b], .int .u64 tick]) (H := []) Try.func61 Try.ntmps61 rfl rfl (E.HA.start w0) ?_
  refine E.CW.seq ?_
  refine E.CW.region ?_
  refine E.OW.box rfl rfl rfl rfl rfl rfl (fun B1 => ?_)
  refine E.OW.box rfl rfl rfl rfl rfl rfl (fun B2 => ?_)
  refine E.OW.pure rfl rfl rfl (E.PV.assign rfl rfl) ?_
  refine E.OW.nil ?_
  refine E.then_n ?_
  refine E.CW.seq ?_
  refine E.CW.seq ?_
  refine E.CW.region ?_
  refine E.OW.pure rfl rfl rfl (E.PV.loads (i := 1) is28 rfl rfl rfl rfl) ?_
  refine E.OW.pure rfl rfl rfl (E.PV.move rfl rfl) ?_
  refine E.OW.pure rfl rfl rfl (E.PV.move rfl rfl) ?_
  (refine E.OW.call nm68 rfl rfl rfl rfl rfl rfl _ (fun w hw => rAsk_ok _ _ _ w ?_ ?_ ?_) ?_; (focus (refine hw.rdC ?_; assumption)); (focus (assumption)); (focus (assumption)); rintro _ _ ⟨rfl, rfl⟩)
  refine E.OW.pure rfl rfl rfl (E.PV.assign rfl rfl) ?_
  refine E.OW.nil ?_
  refine E.then_n ?_
  refine E.CW.seq ?_
  refine E.CW.region ?_
  refine E.OW.pure rfl rfl rfl (E.PV.move rfl rfl) ?_
  refine E.OW.pure rfl rfl rfl (E.PV.neq rfl rfl rfl) ?_
  refine E.OW.nil ?_
  refine E.then_n ?_
  refine E.CW.cond rfl (fun hc => ?_) (fun hc => ?_)
  · simp only [E.b0, E.b1, E.b2, E.b3, E.b4, E.b5, E.b6, E.b7, E.b8, E.b9, E.b10, E.b11, E.b12, E.b13, E.b14, E.b15, E.b16, E.b17, E.b18, E.b19, E.b20, reduceCtorEq] at hc
    all_goals (
      refine E.CW.seq ?_
      refine E.CW.region ?_
      refine E.OW.pure rfl rfl rfl (E.PV.move rfl rfl) ?_
      refine E.OW.pure rfl rfl rfl (E.PV.assign rfl rfl) ?_
      refine E.OW.nil ?_
      refine E.then_n ?_
      refine E.CW.ret ?_
      refine E.then_ret ?_
      refine E.KR.one [] Try.results61 rfl rfl ?_
      exact ⟨by rw [Rt.legE_bad (by assumption)], rfl⟩)
  · simp only [E.b0, E.b1, E.b2, E.b3, E.b4, E.b5, E.b6, E.b7, E.b8, E.b9, E.b10, E.b11, E.b12, E.b13, E.b14, E.b15, E.b16, E.b17, E.b18, E.b19, E.b20, reduceCtorEq] at hc
    all_goals (
      refine E.CW.skip ?_
      refine E.then_n ?_
      refine E.CW.seq ?_
      refine E.CW.seq ?_
      have hTn := Rt.asked_ten (show Rt.asked g.q t tick = 0 by assumption)
      refine E.CW.region ?_
      refine E.OW.pure rfl rfl rfl (E.PV.loads (i := 1) is28 rfl rfl rfl rfl) ?_
      refine E.OW.pure rfl rfl rfl (E.PV.move rfl rfl) ?_
      refine E.OW.pure rfl rfl rfl (E.PV.loads (i := 0) is30 rfl rfl rfl rfl) ?_
      (refine E.OW.call nm50 rfl rfl rfl rfl rfl rfl _ (fun w hw => rIl_ok g t a b w ?_ ?_ hTn) ?_; (focus (refine hw.rdC ?_; assumption)); (focus (assumption)); rintro _ _ ⟨rfl, rfl⟩)
      refine E.OW.pure rfl rfl rfl (E.PV.not rfl rfl) ?_
      refine E.OW.nil ?_
      refine E.then_n ?_
      refine E.CW.cond rfl (fun hc => ?_) (fun hc => ?_)
      · simp only [E.b0, E.b1, E.b2, E.b3, E.b4, E.b5, E.b6, E.b7, E.b8, E.b9, E.b10, E.b11, E.b12, E.b13, E.b14, E.b15, E.b16, E.b17, E.b18, E.b19, E.b20, reduceCtorEq] at hc
        all_goals (
          refine E.CW.seq ?_
          refine E.CW.region ?_
          refine E.OW.pure rfl rfl rfl (E.PV.assign rfl rfl) ?_
          refine E.OW.nil ?_
          refine E.then_n ?_
          refine E.CW.ret ?_
          refine E.then_ret ?_
          refine E.KR.one [] Try.results61 rfl rfl ?_
          exact ⟨by rw [Rt.legE_no (by assumption) (by assumption)], rfl⟩)
      · simp only [E.b0, E.b1, E.b2, E.b3, E.b4, E.b5, E.b6, E.b7, E.b8, E.b9, E.b10, E.b11, E.b12, E.b13, E.b14, E.b15, E.b16, E.b17, E.b18, E.b19, E.b20, reduceCtorEq] at hc
        all_goals (
          refine E.CW.skip ?_
          refine E.then_n ?_
          refine E.CW.seq ?_
          refine E.CW.region ?_
          refine E.OW.pure rfl rfl rfl (E.PV.assign rfl rfl) ?_
          refine E.OW.nil ?_
          refine E.then_n ?_
          refine E.CW.ret ?_
          refine E.KR.one [] Try.results61 rfl rfl ?_
          exact ⟨by rw [Rt.legE_yes (by assumption) (by assumption)], rfl⟩))

set_option maxRecDepth 100000 in
theorem rHas_ok (g : E.Cfg) (t a b p : Int) (w0 : World) (hg : g.rd w0 (E.Old w0)) (hgf : g.q.fit) (hTn : Rt.Ten g.q t) (hp : 0 ≤ p ∧ p < (g.l.length : Int)) :
    Calls Try.prog 77 #[g.v, .int .i64 t, .agg #[.int .i64 a, .int .i64 b], .int .i64 p] w0 (E.Post w0 (E.Old w0) fun v Hn => v = .bool (Rt.has g.q t a b p) ∧ Hn = []) := by
  obtain ⟨hX1, hX2, hX3, hX4⟩ := id hg
  have hgl := E.Cfg.fit_len hgf
  obtain ⟨ht0, ht3, htn⟩ := hTn.ten
  have hs16 : 1 ≤ g.s.length ∧ g.s.length ≤ 16 := Rt.per_of hTn.c
  have htl : t.toNat < g.ts.length := by rw [← E.Cfg.ts_len g]; exact htn
  have hsp : Rt.team g.q t = (g.ts.getD t.toNat E.Tm.z).q := E.Cfg.ts_getD g _
  obtain ⟨⟨_, h3h⟩, ⟨_, h3p⟩, ⟨_, h3d⟩⟩ := hTn.small
  have hsl := Cf.spots_len (Rt.team g.q t)
  rw [hsp] at hsl h3h h3p h3d
  have hhs : Rt.has g.q t a b p = (decide (p = a) || decide (p = b) || decide (Fl.ownerC (g.l.getD p.toNat 0) = -2) || (Fl.own t (g.l.getD p.toNat 0) && !decide (p ∈ Cf.spots (g.ts.getD t.toNat E.Tm.z).q))) := by
    rw [Rt.has_ref hTn hp, hsp]; rfl
  refine E.calls_of (vs := [g.v, .int .i64 t, .agg #[.int .i64 a, .int .i64 b], .int .i64 p]) (H := []) Try.func77 Try.ntmps77 rfl rfl (E.HA.start w0) ?_
  refine E.CW.seq ?_
  refine E.CW.region ?_
  refine E.OW.box rfl rfl rfl rfl rfl rfl (fun B1 => ?_)
  refine E.OW.box rfl rfl rfl rfl rfl rfl (fun B2 => ?_)
  refine E.OW.pure rfl rfl rfl (E.PV.assign rfl rfl) ?_
  refine E.OW.nil ?_
  refine E.then_n ?_
  refine E.CW.seq ?_
  refine E.CW.seq ?_
  refine E.CW.region ?_
  refine E.OW.pure rfl rfl rfl (E.PV.move rfl rfl) ?_
  refine E.OW.pure rfl rfl rfl (E.PV.fieldAddr fa30_0 rfl rfl) ?_
  refine E.OW.pure rfl rfl rfl (E.PV.load (i := 0) na3 rfl rfl rfl rfl) ?_
  refine E.OW.pure rfl rfl rfl (E.PV.eql rfl rfl rfl) ?_
  refine E.OW.pure rfl rfl rfl (E.PV.move rfl rfl) ?_
  all_goals (refine E.OW.split 15 rfl (fun hc => ?_) (fun hc => ?_) <;> (try simp only [E.b0, E.b1, E.b2, E.b3, E.b4, E.b5, E.b6, E.b7, E.b8, E.b9, E.b10, E.b11, E.b12, E.b13, E.b14, E.b15, E.b16, E.b17, E.b18, E.b19, E.b20, reduceCtorEq] at hc) <;> (try (exfalso; first | assumption | contradiction | omega)))
  all_goals (first | (refine E.OW.off rfl rfl rfl ?_) | (refine E.OW.pure rfl rfl rfl (E.PV.move rfl rfl) ?_))
  all_goals (first | (refine E.OW.off rfl rfl rfl ?_) | (refine E.OW.pure rfl rfl rfl (E.PV.fieldAddr fa30_1 rfl rfl) ?_))
  all_goals (first | (refine E.OW.off rfl rfl rfl ?_) | (refine E.OW.pure rfl rfl rfl (E.PV.load (i := 0) na3 rfl rfl rfl rfl) ?_))
  all_goals (first | (refine E.OW.off rfl rfl rfl ?_) | (refine E.OW.pure rfl rfl rfl (E.PV.eql rfl rfl rfl) ?_))
  all_goals (first | (refine E.OW.pure rfl rfl rfl (E.PV.pick_t rfl rfl rfl) ?_) | (refine E.OW.pure rfl rfl rfl (E.PV.pick_f rfl rfl rfl) ?_))
  all_goals (refine E.OW.pure rfl rfl rfl (E.PV.move rfl rfl) ?_)
  all_goals (first | (refine E.OW.put 21 (.bool true) (v := .bool true) rfl rfl ?_) | (refine E.OW.split 21 rfl (fun hc => ?_) (fun hc => ?_) <;> (try simp only [E.b0, E.b1, E.b2, E.b3, E.b4, E.b5, E.b6, E.b7, E.b8, E.b9, E.b10, E.b11, E.b12, E.b13, E.b14, E.b15, E.b16, E.b17, E.b18, E.b19, E.b20, reduceCtorEq] at hc) <;> (try (exfalso; first | assumption | contradiction | omega))))
  all_goals (first | (refine E.OW.off rfl rfl rfl ?_) | (refine E.OW.pure rfl rfl rfl (E.PV.fieldAddr fa28_0 rfl rfl) ?_))
  all_goals (first | (refine E.OW.off rfl rfl rfl ?_) | (refine E.OW.pure rfl rfl rfl (E.PV.loads (i := 1) is24 rfl rfl rfl rfl) ?_))
  all_goals (first | (refine E.OW.off rfl rfl rfl ?_) | (refine E.OW.pure rfl rfl rfl (E.PV.move rfl rfl) ?_))
  all_goals (first | (refine E.OW.off rfl rfl rfl ?_) | ((refine E.OW.call nm94 rfl rfl rfl rfl rfl rfl _ (fun w hw => rAisle_ok _ _ _ _ g.l p w ?_ ?_) ?_; (focus (assumption)); (focus (refine hw.rd ?_; assumption)); rintro _ _ ⟨rfl, rfl⟩)))
  all_goals (first | (refine E.OW.pure rfl rfl rfl (E.PV.pick_t rfl rfl rfl) ?_) | (refine E.OW.pure rfl rfl rfl (E.PV.pick_f rfl rfl rfl) ?_))
  all_goals (
    refine E.OW.nil ?_
    refine E.then_n ?_
    refine E.CW.cond rfl (fun hc => ?_) (fun hc => ?_)
    · simp only [E.b0, E.b1, E.b2, E.b3, E.b4, E.b5, E.b6, E.b7, E.b8, E.b9, E.b10, E.b11, E.b12, E.b13, E.b14, E.b15, E.b16, E.b17, E.b18, E.b19, E.b20, reduceCtorEq] at hc
      all_goals (
        refine E.CW.seq ?_
        refine E.CW.region ?_
        refine E.OW.pure rfl rfl rfl (E.PV.assign rfl rfl) ?_
        refine E.OW.nil ?_
        refine E.then_n ?_
        refine E.CW.ret ?_
        refine E.then_ret ?_
        refine E.KR.one [] Try.results77 rfl rfl ?_
        exact ⟨congrArg Value.bool (by rw [hhs]; first | (simp_all; done) | (simp_all; rfl)), rfl⟩)
    · first | ((cases hc; done)) | (simp only [E.b0, E.b1, E.b2, E.b3, E.b4, E.b5, E.b6, E.b7, E.b8, E.b9, E.b10, E.b11, E.b12, E.b13, E.b14, E.b15, E.b16, E.b17, E.b18, E.b19, E.b20, reduceCtorEq] at hc)
      all_goals (
        refine E.CW.skip ?_
        refine E.then_n ?_
        refine E.CW.seq ?_
        refine E.CW.seq ?_
        refine E.CW.region ?_
        refine E.OW.pure rfl rfl rfl (E.PV.fieldAddr fa28_0 rfl rfl) ?_
        refine E.OW.pure rfl rfl rfl (E.PV.loads (i := 1) is24 rfl rfl rfl rfl) ?_
        refine E.OW.pure rfl rfl rfl (E.PV.move rfl rfl) ?_
        refine E.OW.pure rfl rfl rfl (E.PV.move rfl rfl) ?_
        (refine E.OW.call nm93 rfl rfl rfl rfl rfl rfl _ (fun w hw => rOwn_ok _ _ _ _ g.l t p w ?_ ?_) ?_; (focus (assumption)); (focus (refine hw.rd ?_; assumption)); rintro _ _ ⟨rfl, rfl⟩)
        refine E.OW.pure rfl rfl rfl (E.PV.not rfl rfl) ?_
        refine E.OW.nil ?_
        refine E.then_n ?_
        refine E.CW.cond rfl (fun hc => ?_) (fun hc => ?_)
        · simp only [E.b0, E.b1, E.b2, E.b3, E.b4, E.b5, E.b6, E.b7, E.b8, E.b9, E.b10, E.b11, E.b12, E.b13, E.b14, E.b15, E.b16, E.b17, E.b18, E.b19, E.b20, reduceCtorEq] at hc
          all_goals (
            refine E.CW.seq ?_
            refine E.CW.region ?_
            refine E.OW.pure rfl rfl rfl (E.PV.assign rfl rfl) ?_
            refine E.OW.nil ?_
            refine E.then_n ?_
            refine E.CW.ret ?_
            refine E.then_ret ?_
            refine E.KR.one [] Try.results77 rfl rfl ?_
            exact ⟨congrArg Value.bool (by rw [hhs]; first | (simp_all; done) | (simp_all; rfl)), rfl⟩)
        · simp only [E.b0, E.b1, E.b2, E.b3, E.b4, E.b5, E.b6, E.b7, E.b8, E.b9, E.b10, E.b11, E.b12, E.b13, E.b14, E.b15, E.b16, E.b17, E.b18, E.b19, E.b20, reduceCtorEq] at hc
          all_goals (
            refine E.CW.skip ?_
            refine E.then_n ?_
            refine E.CW.seq ?_
            refine E.CW.region ?_
            refine E.OW.pure rfl rfl rfl (E.PV.fieldAddr fa28_2 rfl rfl) ?_
            refine E.OW.pure rfl rfl rfl (E.PV.load (i := 1) na25 rfl rfl rfl rfl) ?_
            refine E.OW.pure rfl rfl rfl (E.PV.move rfl rfl) ?_
            refine E.OW.pure rfl rfl rfl (E.PV.indexAddr (E.rdc hX3) Try.underlying25 in79 rfl rfl rfl (E.tn ?_) ?_ ?_ (by decide)) ?_; (focus (omega)); (focus (first | (simp; done) | (simp; omega))); (focus (omega))
            refine E.OW.pure rfl rfl rfl (E.PV.load_tm (E.rdc hX3) is79 rfl rfl ?_) ?_; (focus (omega))
            (refine E.OW.call nm109 rfl rfl rfl rfl rfl rfl _ (fun w hw => rSp_ok (g.ts.getD t.toNat E.Tm.z) w (hw.rdm (hg.m _ (E.Tm.mem htl))) (E.Cfg.fit_m hgf _ (E.Tm.mem htl)) (by omega)) ?_; rintro _ _ ⟨AR, cR, rfl, rfl⟩)
            refine E.OW.pure rfl rfl rfl (E.PV.assign rfl rfl) ?_
            refine E.OW.nil ?_
            refine E.then_n ?_
            refine E.CW.seq ?_
            refine E.CW.seq ?_
            refine E.CW.region ?_
            refine E.OW.pure rfl rfl rfl (E.PV.assign rfl rfl) ?_
            refine E.OW.nil ?_
            refine E.then_n ?_
            refine E.CW.block ?_
            refine E.CW.loopk [3, 9] 0 rfl rfl (fun mm mods Hm => ∃ k : Nat, mm = (Cf.spots (g.ts.getD t.toNat E.Tm.z).q).length - k ∧ mods = [(10, .int .i64 k)] ∧ Hm = [] ∧ (k ≤ (Cf.spots (g.ts.getD t.toNat E.Tm.z).q).length ∧ ∀ j, j < k → ¬ (Cf.spots (g.ts.getD t.toNat E.Tm.z).q).getD j 0 = p)) ((Cf.spots (g.ts.getD t.toNat E.Tm.z).q).length) ?_ ?_
            · exact ⟨[(10, _)], (by repeat (first | exact E.cov_nil | refine ⟨rfl, ?_⟩)), 0, rfl, rfl, rfl, by omega, fun j hj => by omega⟩
            · rintro _ _ _ ⟨k, rfl, rfl, rfl, hk, hI⟩
              refine E.CW.seq ?_
              refine E.CW.seq ?_
              refine E.CW.region ?_
              refine E.OW.pure rfl rfl rfl (E.PV.move rfl rfl) ?_
              refine E.OW.pure rfl rfl rfl (E.PV.move rfl rfl) ?_
              refine E.OW.pure rfl rfl rfl (E.PV.len Try.underlying31 rfl rfl) ?_
              refine E.OW.pure rfl rfl rfl (E.PV.lss rfl rfl rfl) ?_
              refine E.OW.nil ?_
              refine E.then_n ?_
              refine E.CW.cond rfl (fun hc => ?_) (fun hc => ?_)
              · simp only [E.b0, E.b1, E.b2, E.b3, E.b4, E.b5, E.b6, E.b7, E.b8, E.b9, E.b10, E.b11, E.b12, E.b13, E.b14, E.b15, E.b16, E.b17, E.b18, E.b19, E.b20, reduceCtorEq] at hc
                all_goals (
                  refine E.CW.skip ?_
                  refine E.then_n ?_
                  refine E.CW.seq ?_
                  refine E.CW.block ?_
                  refine E.CW.seq ?_
                  refine E.CW.region ?_
                  refine E.OW.pure rfl rfl rfl (E.PV.move rfl rfl) ?_
                  refine E.OW.pure rfl rfl rfl (E.PV.move rfl rfl) ?_
                  refine E.OW.pure rfl rfl rfl (E.PV.indexAddr1 (E.rdr (i := 0) rfl) Try.underlying31 in3 rfl rfl rfl rfl ?_ ?_) ?_; (focus (first | (simp; done) | (simp; omega))); (focus (omega))
                  refine E.OW.pure rfl rfl rfl (E.PV.load_int (E.rdr (i := 0) rfl) na3 rfl rfl ?_) ?_; (focus (omega))
                  refine E.OW.pure rfl rfl rfl (E.PV.move rfl rfl) ?_
                  refine E.OW.pure rfl rfl rfl (E.PV.eql rfl rfl rfl) ?_
                  refine E.OW.nil ?_
                  refine E.then_n ?_
                  refine E.CW.cond rfl (fun hc => ?_) (fun hc => ?_)
                  · simp only [E.b0, E.b1, E.b2, E.b3, E.b4, E.b5, E.b6, E.b7, E.b8, E.b9, E.b10, E.b11, E.b12, E.b13, E.b14, E.b15, E.b16, E.b17, E.b18, E.b19, E.b20, reduceCtorEq] at hc
                    all_goals (
                      refine E.CW.seq ?_
                      refine E.CW.region ?_
                      refine E.OW.pure rfl rfl rfl (E.PV.assign rfl rfl) ?_
                      refine E.OW.nil ?_
                      refine E.then_n ?_
                      refine E.CW.ret ?_
                      refine E.blk_ret ?_
                      refine E.then_ret ?_
                      refine E.then_ret ?_
                      refine E.blk_ret ?_
                      refine E.then_ret ?_
                      refine E.KR.one [] Try.results77 rfl rfl ?_
                      have hs9 := Rt.is_spot (i := k) (show k < (Cf.spots (g.ts.getD t.toNat E.Tm.z).q).length by omega) (by assumption)
                      exact ⟨congrArg Value.bool (by rw [hhs, hs9]; first | (simp_all; done) | (simp_all; rfl)), rfl⟩)
                  · simp only [E.b0, E.b1, E.b2, E.b3, E.b4, E.b5, E.b6, E.b7, E.b8, E.b9, E.b10, E.b11, E.b12, E.b13, E.b14, E.b15, E.b16, E.b17, E.b18, E.b19, E.b20, reduceCtorEq] at hc
                    all_goals (
                      refine E.CW.skip ?_
                      refine E.blk_n ?_
                      refine E.then_n ?_
                      refine E.CW.region ?_
                      refine E.OW.pure rfl rfl rfl (E.PV.move rfl rfl) ?_
                      refine E.OW.pure rfl rfl rfl (E.PV.add_i64 rfl rfl rfl ?_) ?_; (focus (omega))
                      refine E.OW.pure rfl rfl rfl (E.PV.assign rfl rfl) ?_
                      refine E.OW.nil ?_
                      refine E.then_nf ?_
                      refine ⟨_, [(10, _)], [0, 0, 0], _, ?_, by repeat (first | exact E.cov_nil | refine ⟨rfl, ?_⟩), rfl, k + 1, rfl, rfl, rfl, by omega, Cf.next_all hI (by assumption)⟩
                      omega))
              · simp only [E.b0, E.b1, E.b2, E.b3, E.b4, E.b5, E.b6, E.b7, E.b8, E.b9, E.b10, E.b11, E.b12, E.b13, E.b14, E.b15, E.b16, E.b17, E.b18, E.b19, E.b20, reduceCtorEq] at hc
                all_goals (
                  refine E.CW.exit ?_
                  refine E.then_x ?_
                  refine E.then_x ?_
                  refine E.blk_eq ?_
                  refine E.then_n ?_
                  refine E.CW.seq ?_
                  refine E.CW.region ?_
                  refine E.OW.pure rfl rfl rfl (E.PV.assign rfl rfl) ?_
                  refine E.OW.nil ?_
                  refine E.then_n ?_
                  refine E.CW.ret ?_
                  refine E.KR.one [] Try.results77 rfl rfl ?_
                  have hs9 := Rt.not_spot (p := p) (l := Cf.spots (g.ts.getD t.toNat E.Tm.z).q) (fun j hj => hI j (by omega))
                  exact ⟨congrArg Value.bool (by rw [hhs, hs9]; first | (simp_all; done) | (simp_all; rfl)), rfl⟩))))

set_option maxRecDepth 100000 in
theorem rAd_ok (g : E.Cfg) (t p tick : Int) (w0 : World) (hg : g.rd w0 (E.Old w0)) (hgf : g.q.fit) (ht : 0 ≤ tick ∧ tick < 18446744073709551616) :
    Calls Try.prog 32 #[g.v, .int .i64 t, .int .i64 p, .int .u64 tick] w0 (E.Post w0 (E.Old w0) fun v Hn => v = .tuple #[.bool (Rt.allowed g.q t p tick).1, .int .i64 (Rt.allowed g.q t p tick).2] ∧ Hn = []) := by
  obtain ⟨hX1, hX2, hX3, hX4⟩ := id hg
  have hgl := E.Cfg.fit_len hgf
  refine E.calls_of (vs := [g.v, .int .i64 t, .int .i64 p, .int .u64 tick]) (H := []) Try.func32 Try.ntmps32 rfl rfl (E.HA.start w0) ?_
  refine E.CW.seq ?_
  refine E.CW.region ?_
  refine E.OW.box rfl rfl rfl rfl rfl rfl (fun B1 => ?_)
  refine E.OW.pure rfl rfl rfl (E.PV.assign rfl rfl) ?_
  refine E.OW.pure rfl rfl rfl (E.PV.assign rfl rfl) ?_
  refine E.OW.nil ?_
  refine E.then_n ?_
  refine E.CW.seq ?_
  refine E.CW.seq ?_
  refine E.CW.region ?_
  refine E.OW.pure rfl rfl rfl (E.PV.loads (i := 0) is28 rfl rfl rfl rfl) ?_
  refine E.OW.pure rfl rfl rfl (E.PV.move rfl rfl) ?_
  refine E.OW.pure rfl rfl rfl (E.PV.move rfl rfl) ?_
  (refine E.OW.call nm68 rfl rfl rfl rfl rfl rfl _ (fun w hw => rAsk_ok _ _ _ w ?_ ?_ ?_) ?_; (focus (refine hw.rdC ?_; assumption)); (focus (assumption)); (focus (assumption)); rintro _ _ ⟨rfl, rfl⟩)
  refine E.OW.pure rfl rfl rfl (E.PV.assign rfl rfl) ?_
  refine E.OW.nil ?_
  refine E.then_n ?_
  refine E.CW.seq ?_
  refine E.CW.region ?_
  refine E.OW.pure rfl rfl rfl (E.PV.move rfl rfl) ?_
  refine E.OW.pure rfl rfl rfl (E.PV.neq rfl rfl rfl) ?_
  refine E.OW.nil ?_
  refine E.then_n ?_
  refine E.CW.cond rfl (fun hc => ?_) (fun hc => ?_)
  · simp only [E.b0, E.b1, E.b2, E.b3, E.b4, E.b5, E.b6, E.b7, E.b8, E.b9, E.b10, E.b11, E.b12, E.b13, E.b14, E.b15, E.b16, E.b17, E.b18, E.b19, E.b20, reduceCtorEq] at hc
    all_goals (
      refine E.CW.seq ?_
      refine E.CW.region ?_
      refine E.OW.pure rfl rfl rfl (E.PV.move rfl rfl) ?_
      refine E.OW.pure rfl rfl rfl (E.PV.assign rfl rfl) ?_
      refine E.OW.pure rfl rfl rfl (E.PV.assign rfl rfl) ?_
      refine E.OW.nil ?_
      refine E.then_n ?_
      refine E.CW.ret ?_
      refine E.then_ret ?_
      refine E.KR.two [] Try.results32 rfl rfl rfl ?_
      exact ⟨by rw [Rt.ad_bad (by assumption)], rfl⟩)
  · simp only [E.b0, E.b1, E.b2, E.b3, E.b4, E.b5, E.b6, E.b7, E.b8, E.b9, E.b10, E.b11, E.b12, E.b13, E.b14, E.b15, E.b16, E.b17, E.b18, E.b19, E.b20, reduceCtorEq] at hc
    all_goals (
      refine E.CW.skip ?_
      refine E.then_n ?_
      refine E.CW.seq ?_
      refine E.CW.seq ?_
      have hTn := Rt.asked_ten (show Rt.asked g.q t tick = 0 by assumption)
      refine E.CW.region ?_
      refine E.OW.pure rfl rfl rfl (E.PV.loads (i := 0) is28 rfl rfl rfl rfl) ?_
      refine E.OW.pure rfl rfl rfl (E.PV.move rfl rfl) ?_
      (refine E.OW.call nm62 rfl rfl rfl rfl rfl rfl _ (fun w hw => rOn_ok _ _ w ?_ ?_) ?_; (focus (refine hw.rdC ?_; assumption)); (focus (assumption)); rintro _ _ ⟨rfl, rfl⟩)
      refine E.OW.pure rfl rfl rfl (E.PV.not rfl rfl) ?_
      refine E.OW.nil ?_
      refine E.then_n ?_
      refine E.CW.cond rfl (fun hc => ?_) (fun hc => ?_)
      · simp only [E.b0, E.b1, E.b2, E.b3, E.b4, E.b5, E.b6, E.b7, E.b8, E.b9, E.b10, E.b11, E.b12, E.b13, E.b14, E.b15, E.b16, E.b17, E.b18, E.b19, E.b20, reduceCtorEq] at hc
        all_goals (
          refine E.CW.seq ?_
          refine E.CW.region ?_
          refine E.OW.pure rfl rfl rfl (E.PV.assign rfl rfl) ?_
          refine E.OW.pure rfl rfl rfl (E.PV.assign rfl rfl) ?_
          refine E.OW.nil ?_
          refine E.then_n ?_
          refine E.CW.ret ?_
          refine E.then_ret ?_
          refine E.KR.two [] Try.results32 rfl rfl rfl ?_
          exact ⟨by rw [Rt.ad_off (by assumption) (fun hh => by (have h9 := Rt.on_iff.2 hh); simp_all)], rfl⟩)
      · simp only [E.b0, E.b1, E.b2, E.b3, E.b4, E.b5, E.b6, E.b7, E.b8, E.b9, E.b10, E.b11, E.b12, E.b13, E.b14, E.b15, E.b16, E.b17, E.b18, E.b19, E.b20, reduceCtorEq] at hc
        all_goals (
          refine E.CW.skip ?_
          refine E.then_n ?_
          refine E.CW.seq ?_
          refine E.CW.region ?_
          refine E.OW.pure rfl rfl rfl (E.PV.loads (i := 0) is28 rfl rfl rfl rfl) ?_
          refine E.OW.pure rfl rfl rfl (E.PV.move rfl rfl) ?_
          refine E.OW.pure rfl rfl rfl (E.PV.move rfl rfl) ?_
          refine E.OW.pure rfl rfl rfl (E.PV.move rfl rfl) ?_
          (refine E.OW.call nm76 rfl rfl rfl rfl rfl rfl _ (fun w hw => rAl_ok g t p tick w ?_ ?_ ?_ hTn (Rt.on_iff.1 (by assumption))) ?_; (focus (refine hw.rdC ?_; assumption)); (focus (assumption)); (focus (assumption)); rintro _ _ ⟨rfl, rfl⟩)
          refine E.OW.pure rfl rfl rfl (E.PV.assign rfl rfl) ?_
          refine E.OW.pure rfl rfl rfl (E.PV.assign rfl rfl) ?_
          refine E.OW.nil ?_
          refine E.then_n ?_
          refine E.CW.ret ?_
          refine E.KR.two [] Try.results32 rfl rfl rfl ?_
          exact ⟨by rw [Rt.ad_on (by assumption) (Rt.on_iff.1 (by assumption))], rfl⟩))

set_option maxRecDepth 100000 in
theorem rFe_ok (g : E.Cfg) (t a b p tick : Int) (w0 : World) (hg : g.rd w0 (E.Old w0)) (hgf : g.q.fit) (ht : 0 ≤ tick ∧ tick < 18446744073709551616) (hTn : Rt.Ten g.q t) (hp : 0 ≤ p ∧ p < (g.l.length : Int)) :
    Calls Try.prog 64 #[g.v, .int .i64 t, .agg #[.int .i64 a, .int .i64 b], .int .i64 p, .int .u64 tick] w0 (E.Post w0 (E.Old w0) fun v Hn => v = .bool (Rt.alw g.q t a b tick p) ∧ Hn = []) := by
  obtain ⟨hX1, hX2, hX3, hX4⟩ := id hg
  have hgl := E.Cfg.fit_len hgf
  have hal := Rt.alw_allows (g := g.q) (t := t) (a := a) (b := b) (p := p) (tick := tick) hTn.c
  refine E.calls_of (vs := [g.v, .int .i64 t, .agg #[.int .i64 a, .int .i64 b], .int .i64 p, .int .u64 tick]) (H := []) Try.func64 Try.ntmps64 rfl rfl (E.HA.start w0) ?_
  refine E.CW.seq ?_
  refine E.CW.region ?_
  refine E.OW.box rfl rfl rfl rfl rfl rfl (fun B1 => ?_)
  refine E.OW.box rfl rfl rfl rfl rfl rfl (fun B2 => ?_)
  refine E.OW.pure rfl rfl rfl (E.PV.assign rfl rfl) ?_
  refine E.OW.nil ?_
  refine E.then_n ?_
  refine E.CW.seq ?_
  refine E.CW.region ?_
  refine E.OW.pure rfl rfl rfl (E.PV.loads (i := 1) is28 rfl rfl rfl rfl) ?_
  refine E.OW.pure rfl rfl rfl (E.PV.move rfl rfl) ?_
  refine E.OW.pure rfl rfl rfl (E.PV.loads (i := 0) is30 rfl rfl rfl rfl) ?_
  refine E.OW.pure rfl rfl rfl (E.PV.move rfl rfl) ?_
  (refine E.OW.call nm77 rfl rfl rfl rfl rfl rfl _ (fun w hw => rHas_ok _ _ _ _ _ w ?_ ?_ ?_ ?_) ?_; (focus (refine hw.rdC ?_; assumption)); (focus (assumption)); (focus (assumption)); (focus (assumption)); rintro _ _ ⟨rfl, rfl⟩)
  refine E.OW.pure rfl rfl rfl (E.PV.move rfl rfl) ?_
  all_goals (refine E.OW.split 16 rfl (fun hc => ?_) (fun hc => ?_) <;> (try simp only [E.b0, E.b1, E.b2, E.b3, E.b4, E.b5, E.b6, E.b7, E.b8, E.b9, E.b10, E.b11, E.b12, E.b13, E.b14, E.b15, E.b16, E.b17, E.b18, E.b19, E.b20, reduceCtorEq] at hc) <;> (try (exfalso; first | assumption | contradiction | omega)))
  all_goals (first | (refine E.OW.off rfl rfl rfl ?_) | (refine E.OW.pure rfl rfl rfl (E.PV.loads (i := 1) is28 rfl rfl rfl rfl) ?_))
  all_goals (first | (refine E.OW.off rfl rfl rfl ?_) | (refine E.OW.pure rfl rfl rfl (E.PV.move rfl rfl) ?_))
  all_goals (first | (refine E.OW.off rfl rfl rfl ?_) | (refine E.OW.pure rfl rfl rfl (E.PV.move rfl rfl) ?_))
  all_goals (first | (refine E.OW.off rfl rfl rfl ?_) | (refine E.OW.pure rfl rfl rfl (E.PV.move rfl rfl) ?_))
  all_goals (first | (refine E.OW.off rfl rfl rfl ?_) | ((refine E.OW.call nm76 rfl rfl rfl rfl rfl rfl _ (fun w hw => rAl_ok _ _ _ _ w ?_ ?_ ?_ ?_ ?_) ?_; (focus (refine hw.rdC ?_; assumption)); (focus (assumption)); (focus (assumption)); (focus (assumption)); (focus (assumption)); rintro _ _ ⟨rfl, rfl⟩)))
  all_goals (first | (refine E.OW.pure rfl rfl rfl (E.PV.pick_t rfl rfl rfl) ?_) | (refine E.OW.pure rfl rfl rfl (E.PV.pick_f rfl rfl rfl) ?_))
  all_goals (refine E.OW.pure rfl rfl rfl (E.PV.assign rfl rfl) ?_)
  all_goals (
    refine E.OW.nil ?_
    refine E.then_n ?_
    refine E.CW.ret ?_
    refine E.KR.one [] Try.results64 rfl rfl ?_
    exact ⟨congrArg Value.bool (by rw [hal]; first | (simp_all; done) | (simp_all; rfl)), rfl⟩)

set_option maxRecDepth 100000 in
theorem rFr_ok (g : E.Cfg) (t a b p tick : Int) (w0 : World) (hg : g.rd w0 (E.Old w0)) (hgf : g.q.fit) (ht : 0 ≤ tick ∧ tick < 18446744073709551616) :
    Calls Try.prog 36 #[g.v, .int .i64 t, .agg #[.int .i64 a, .int .i64 b], .int .i64 p, .int .u64 tick] w0 (E.Post w0 (E.Old w0) fun v Hn => v = .tuple #[.bool (Rt.freeR g.q t a b p tick).1, .int .i64 (Rt.freeR g.q t a b p tick).2] ∧ Hn = []) := by
  obtain ⟨hX1, hX2, hX3, hX4⟩ := id hg
  have hgl := E.Cfg.fit_len hgf
  refine E.calls_of (vs := [g.v, .int .i64 t, .agg #[.int .i64 a, .int .i64 b], .int .i64 p, .int .u64 tick]) (H := []) Try.func36 Try.ntmps36 rfl rfl (E.HA.start w0) ?_
  refine E.CW.seq ?_
  refine E.CW.region ?_
  refine E.OW.box rfl rfl rfl rfl rfl rfl (fun B1 => ?_)
  refine E.OW.box rfl rfl rfl rfl rfl rfl (fun B2 => ?_)
  refine E.OW.pure rfl rfl rfl (E.PV.assign rfl rfl) ?_
  refine E.OW.pure rfl rfl rfl (E.PV.assign rfl rfl) ?_
  refine E.OW.nil ?_
  refine E.then_n ?_
  refine E.CW.seq ?_
  refine E.CW.seq ?_
  refine E.CW.region ?_
  refine E.OW.pure rfl rfl rfl (E.PV.loads (i := 1) is28 rfl rfl rfl rfl) ?_
  refine E.OW.pure rfl rfl rfl (E.PV.move rfl rfl) ?_
  refine E.OW.pure rfl rfl rfl (E.PV.loads (i := 0) is30 rfl rfl rfl rfl) ?_
  refine E.OW.pure rfl rfl rfl (E.PV.move rfl rfl) ?_
  (refine E.OW.call nm61 rfl rfl rfl rfl rfl rfl _ (fun w hw => rLe_ok _ _ _ _ _ w ?_ ?_ ?_) ?_; (focus (refine hw.rdC ?_; assumption)); (focus (assumption)); (focus (assumption)); rintro _ _ ⟨rfl, rfl⟩)
  refine E.OW.pure rfl rfl rfl (E.PV.assign rfl rfl) ?_
  refine E.OW.nil ?_
  refine E.then_n ?_
  refine E.CW.seq ?_
  refine E.CW.region ?_
  refine E.OW.pure rfl rfl rfl (E.PV.move rfl rfl) ?_
  refine E.OW.pure rfl rfl rfl (E.PV.neq rfl rfl rfl) ?_
  refine E.OW.nil ?_
  refine E.then_n ?_
  refine E.CW.cond rfl (fun hc => ?_) (fun hc => ?_)
  · simp only [E.b0, E.b1, E.b2, E.b3, E.b4, E.b5, E.b6, E.b7, E.b8, E.b9, E.b10, E.b11, E.b12, E.b13, E.b14, E.b15, E.b16, E.b17, E.b18, E.b19, E.b20, reduceCtorEq] at hc
    all_goals (
      refine E.CW.seq ?_
      refine E.CW.region ?_
      refine E.OW.pure rfl rfl rfl (E.PV.move rfl rfl) ?_
      refine E.OW.pure rfl rfl rfl (E.PV.assign rfl rfl) ?_
      refine E.OW.pure rfl rfl rfl (E.PV.assign rfl rfl) ?_
      refine E.OW.nil ?_
      refine E.then_n ?_
      refine E.CW.ret ?_
      refine E.then_ret ?_
      refine E.KR.two [] Try.results36 rfl rfl rfl ?_
      exact ⟨by rw [show Rt.freeR g.q t a b p tick = (false, Rt.legE g.q t a b tick) from if_neg (by assumption)], rfl⟩)
  · simp only [E.b0, E.b1, E.b2, E.b3, E.b4, E.b5, E.b6, E.b7, E.b8, E.b9, E.b10, E.b11, E.b12, E.b13, E.b14, E.b15, E.b16, E.b17, E.b18, E.b19, E.b20, reduceCtorEq] at hc
    all_goals (
      refine E.CW.skip ?_
      refine E.then_n ?_
      refine E.CW.seq ?_
      refine E.CW.seq ?_
      have hLe := Rt.leg_of (show Rt.legE g.q t a b tick = 0 by assumption)
      have hTn : Rt.Ten g.q t := ⟨hLe.1.c, hLe.1.p⟩
      refine E.CW.region ?_
      refine E.OW.pure rfl rfl rfl (E.PV.loads (i := 1) is28 rfl rfl rfl rfl) ?_
      refine E.OW.pure rfl rfl rfl (E.PV.move rfl rfl) ?_
      (refine E.OW.call nm62 rfl rfl rfl rfl rfl rfl _ (fun w hw => rOn_ok _ _ w ?_ ?_) ?_; (focus (refine hw.rdC ?_; assumption)); (focus (assumption)); rintro _ _ ⟨rfl, rfl⟩)
      refine E.OW.pure rfl rfl rfl (E.PV.not rfl rfl) ?_
      refine E.OW.nil ?_
      refine E.then_n ?_
      refine E.CW.cond rfl (fun hc => ?_) (fun hc => ?_)
      · simp only [E.b0, E.b1, E.b2, E.b3, E.b4, E.b5, E.b6, E.b7, E.b8, E.b9, E.b10, E.b11, E.b12, E.b13, E.b14, E.b15, E.b16, E.b17, E.b18, E.b19, E.b20, reduceCtorEq] at hc
        all_goals (
          refine E.CW.seq ?_
          refine E.CW.region ?_
          refine E.OW.pure rfl rfl rfl (E.PV.assign rfl rfl) ?_
          refine E.OW.pure rfl rfl rfl (E.PV.assign rfl rfl) ?_
          refine E.OW.nil ?_
          refine E.then_n ?_
          refine E.CW.ret ?_
          refine E.then_ret ?_
          refine E.KR.two [] Try.results36 rfl rfl rfl ?_
          exact ⟨by rw [show Rt.freeR g.q t a b p tick = (false, 2) from (if_pos (by assumption)).trans (if_neg (fun hh => by (have h9 := Rt.on_iff.2 hh); simp_all))], rfl⟩)
      · simp only [E.b0, E.b1, E.b2, E.b3, E.b4, E.b5, E.b6, E.b7, E.b8, E.b9, E.b10, E.b11, E.b12, E.b13, E.b14, E.b15, E.b16, E.b17, E.b18, E.b19, E.b20, reduceCtorEq] at hc
        all_goals (
          refine E.CW.skip ?_
          refine E.then_n ?_
          refine E.CW.seq ?_
          refine E.CW.region ?_
          refine E.OW.pure rfl rfl rfl (E.PV.loads (i := 1) is28 rfl rfl rfl rfl) ?_
          refine E.OW.pure rfl rfl rfl (E.PV.move rfl rfl) ?_
          refine E.OW.pure rfl rfl rfl (E.PV.loads (i := 0) is30 rfl rfl rfl rfl) ?_
          refine E.OW.pure rfl rfl rfl (E.PV.move rfl rfl) ?_
          refine E.OW.pure rfl rfl rfl (E.PV.move rfl rfl) ?_
          (refine E.OW.call nm64 rfl rfl rfl rfl rfl rfl _ (fun w hw => rFe_ok g t a b p tick w ?_ ?_ ?_ hTn (Rt.on_iff.1 (by assumption))) ?_; (focus (refine hw.rdC ?_; assumption)); (focus (assumption)); (focus (assumption)); rintro _ _ ⟨rfl, rfl⟩)
          refine E.OW.pure rfl rfl rfl (E.PV.assign rfl rfl) ?_
          refine E.OW.pure rfl rfl rfl (E.PV.assign rfl rfl) ?_
          refine E.OW.nil ?_
          refine E.then_n ?_
          refine E.CW.ret ?_
          refine E.KR.two [] Try.results36 rfl rfl rfl ?_
          have hon := Rt.on_iff.1 (show Rt.on g.q p = true by assumption)
          exact ⟨by rw [show Rt.freeR g.q t a b p tick = ((Rt.G g.q t a b).al (Rt.ph g.q tick) p.toNat, 0) from (if_pos (by assumption)).trans (if_pos hon), Rt.G_al hTn.c, Int.toNat_of_nonneg hon.1], rfl⟩))

set_option maxRecDepth 100000 in
theorem rCl_ok (g : E.Cfg) (p q : Int) (w0 : World) (hg : g.rd w0 (E.Old w0)) (hgf : g.q.fit) (hc : Cf.check g.q = 0) (hp : 0 ≤ p ∧ p < (g.l.length : Int)) (hq : 0 ≤ q) :
    Calls Try.prog 63 #[g.v, .int .i64 p, .int .i64 q] w0 (E.Post w0 (E.Old w0) fun v Hn => v = .bool (decide (q ∈ Rt.nearI g.a g.b p)) ∧ Hn = []) := by
  obtain ⟨hX1, hX2, hX3, hX4⟩ := id hg
  have hgl := E.Cfg.fit_len hgf
  have hsd : 2 ≤ g.a ∧ g.a ≤ 8 ∧ 2 ≤ g.b ∧ g.b ≤ 8 := Rt.sides_of hc
  have hln : (g.l.length : Int) = g.a * g.b := Rt.len_of hc
  have hpm : 0 ≤ p ∧ p < g.a * g.b := by rw [← hln]; exact hp
  refine E.calls_of (vs := [g.v, .int .i64 p, .int .i64 q]) (H := []) Try.func63 Try.ntmps63 rfl rfl (E.HA.start w0) ?_
  refine E.CW.seq ?_
  refine E.CW.region ?_
  refine E.OW.box rfl rfl rfl rfl rfl rfl (fun B1 => ?_)
  refine E.OW.pure rfl rfl rfl (E.PV.assign rfl rfl) ?_
  refine E.OW.nil ?_
  refine E.then_n ?_
  refine E.CW.seq ?_
  refine E.CW.seq ?_
  refine E.CW.region ?_
  refine E.OW.pure rfl rfl rfl (E.PV.move rfl rfl) ?_
  refine E.OW.pure rfl rfl rfl (E.PV.move rfl rfl) ?_
  refine E.OW.pure rfl rfl rfl (E.PV.eql rfl rfl rfl) ?_
  refine E.OW.nil ?_
  refine E.then_n ?_
  refine E.CW.cond rfl (fun hc => ?_) (fun hc => ?_)
  · simp only [E.b0, E.b1, E.b2, E.b3, E.b4, E.b5, E.b6, E.b7, E.b8, E.b9, E.b10, E.b11, E.b12, E.b13, E.b14, E.b15, E.b16, E.b17, E.b18, E.b19, E.b20, reduceCtorEq] at hc
    all_goals (
      refine E.CW.seq ?_
      refine E.CW.region ?_
      refine E.OW.pure rfl rfl rfl (E.PV.assign rfl rfl) ?_
      refine E.OW.nil ?_
      refine E.then_n ?_
      refine E.CW.ret ?_
      refine E.then_ret ?_
      refine E.KR.one [] Try.results63 rfl rfl ?_
      exact ⟨by rw [Rt.near_same (by assumption)], rfl⟩)
  · simp only [E.b0, E.b1, E.b2, E.b3, E.b4, E.b5, E.b6, E.b7, E.b8, E.b9, E.b10, E.b11, E.b12, E.b13, E.b14, E.b15, E.b16, E.b17, E.b18, E.b19, E.b20, reduceCtorEq] at hc
    all_goals (
      refine E.CW.skip ?_
      refine E.then_n ?_
      refine E.CW.seq ?_
      refine E.CW.seq ?_
      refine E.CW.region ?_
      refine E.OW.pure rfl rfl rfl (E.PV.assign rfl rfl) ?_
      refine E.OW.nil ?_
      refine E.then_n ?_
      refine E.CW.block ?_
      refine E.CW.loopk [1, 2, 3] 0 rfl rfl (fun mm mods Hm => ∃ d : Nat, mm = 4 - d ∧ mods = [(7, .int .i64 d)] ∧ Hm = [] ∧ (d ≤ 4 ∧ ∀ j : Nat, j < d → ¬ Fl.mv g.a g.b p (j : Int) = q)) (4) ?_ ?_
      · exact ⟨[(7, _)], (by repeat (first | exact E.cov_nil | refine ⟨rfl, ?_⟩)), 0, rfl, rfl, rfl, by omega, fun j hj => by omega⟩
      · rintro _ _ _ ⟨d, rfl, rfl, rfl, hd, hI⟩
        refine E.CW.seq ?_
        refine E.CW.seq ?_
        refine E.CW.region ?_
        refine E.OW.pure rfl rfl rfl (E.PV.move rfl rfl) ?_
        refine E.OW.pure rfl rfl rfl (E.PV.lss rfl rfl rfl) ?_
        refine E.OW.nil ?_
        refine E.then_n ?_
        refine E.CW.cond rfl (fun hc => ?_) (fun hc => ?_)
        · simp only [E.b0, E.b1, E.b2, E.b3, E.b4, E.b5, E.b6, E.b7, E.b8, E.b9, E.b10, E.b11, E.b12, E.b13, E.b14, E.b15, E.b16, E.b17, E.b18, E.b19, E.b20, reduceCtorEq] at hc
          all_goals (
            refine E.CW.skip ?_
            refine E.then_n ?_
            refine E.CW.seq ?_
            refine E.CW.block ?_
            refine E.CW.seq ?_
            refine E.CW.region ?_
            refine E.OW.pure rfl rfl rfl (E.PV.fieldAddr fa28_0 rfl rfl) ?_
            refine E.OW.pure rfl rfl rfl (E.PV.fieldAddr fa24_0 rfl rfl) ?_
            refine E.OW.pure rfl rfl rfl (E.PV.load (i := 0) na3 rfl rfl rfl rfl) ?_
            refine E.OW.pure rfl rfl rfl (E.PV.fieldAddr fa28_0 rfl rfl) ?_
            refine E.OW.pure rfl rfl rfl (E.PV.fieldAddr fa24_1 rfl rfl) ?_
            refine E.OW.pure rfl rfl rfl (E.PV.load (i := 0) na3 rfl rfl rfl rfl) ?_
            refine E.OW.pure rfl rfl rfl (E.PV.move rfl rfl) ?_
            refine E.OW.pure rfl rfl rfl (E.PV.move rfl rfl) ?_
            (refine E.OW.call nm104 rfl rfl rfl rfl rfl rfl _ (fun w hw => rMove_ok _ _ _ _ hsd hpm (by omega) w) ?_; rintro _ _ ⟨rfl, rfl⟩)
            refine E.OW.pure rfl rfl rfl (E.PV.move rfl rfl) ?_
            refine E.OW.pure rfl rfl rfl (E.PV.eql rfl rfl rfl) ?_
            refine E.OW.nil ?_
            refine E.then_n ?_
            refine E.CW.cond rfl (fun hc => ?_) (fun hc => ?_)
            · simp only [E.b0, E.b1, E.b2, E.b3, E.b4, E.b5, E.b6, E.b7, E.b8, E.b9, E.b10, E.b11, E.b12, E.b13, E.b14, E.b15, E.b16, E.b17, E.b18, E.b19, E.b20, reduceCtorEq] at hc
              all_goals (
                refine E.CW.seq ?_
                refine E.CW.region ?_
                refine E.OW.pure rfl rfl rfl (E.PV.assign rfl rfl) ?_
                refine E.OW.nil ?_
                refine E.then_n ?_
                refine E.CW.ret ?_
                refine E.blk_ret ?_
                refine E.then_ret ?_
                refine E.then_ret ?_
                refine E.blk_ret ?_
                refine E.then_ret ?_
                refine E.KR.one [] Try.results63 rfl rfl ?_
                exact ⟨by rw [Rt.near_dir (d := d) (by omega) hq (by assumption)], rfl⟩)
            · simp only [E.b0, E.b1, E.b2, E.b3, E.b4, E.b5, E.b6, E.b7, E.b8, E.b9, E.b10, E.b11, E.b12, E.b13, E.b14, E.b15, E.b16, E.b17, E.b18, E.b19, E.b20, reduceCtorEq] at hc
              all_goals (
                refine E.CW.skip ?_
                refine E.blk_n ?_
                refine E.then_n ?_
                refine E.CW.region ?_
                refine E.OW.pure rfl rfl rfl (E.PV.move rfl rfl) ?_
                refine E.OW.pure rfl rfl rfl (E.PV.add_i64 rfl rfl rfl ?_) ?_; (focus (omega))
                refine E.OW.pure rfl rfl rfl (E.PV.assign rfl rfl) ?_
                refine E.OW.nil ?_
                refine E.then_nf ?_
                refine ⟨_, [(7, _)], [0], _, ?_, by repeat (first | exact E.cov_nil | refine ⟨rfl, ?_⟩), rfl, d + 1, rfl, rfl, rfl, by omega, Cf.next_all hI (by assumption)⟩
                omega))
        · simp only [E.b0, E.b1, E.b2, E.b3, E.b4, E.b5, E.b6, E.b7, E.b8, E.b9, E.b10, E.b11, E.b12, E.b13, E.b14, E.b15, E.b16, E.b17, E.b18, E.b19, E.b20, reduceCtorEq] at hc
          all_goals (
            refine E.CW.exit ?_
            refine E.then_x ?_
            refine E.then_x ?_
            refine E.blk_eq ?_
            refine E.then_n ?_
            refine E.CW.seq ?_
            refine E.CW.region ?_
            refine E.OW.pure rfl rfl rfl (E.PV.assign rfl rfl) ?_
            refine E.OW.nil ?_
            refine E.then_n ?_
            refine E.CW.ret ?_
            refine E.KR.one [] Try.results63 rfl rfl ?_
            exact ⟨by rw [Rt.near_not (by assumption) (fun j hj => hI j (by omega))], rfl⟩))

set_option maxRecDepth 100000 in
theorem rCe_ok (g : E.Cfg) (t a b : Int) (w0 : World) (hg : g.rd w0 (E.Old w0)) (hgf : g.q.fit) :
    Calls Try.prog 34 #[g.v, .int .i64 t, .agg #[.int .i64 a, .int .i64 b]] w0 (E.Post w0 (E.Old w0) fun v Hn => ∃ A2 c2, v = .tuple #[.slice A2 ((Rt.cellsR g.q t a b).1).length c2, .int .i64 (Rt.cellsR g.q t a b).2] ∧ Hn = [E.HP.row 3 1 A2 ((Rt.cellsR g.q t a b).1).length c2 (E.ints ((Rt.cellsR g.q t a b).1))]) := by
  obtain ⟨hX1, hX2, hX3, hX4⟩ := id hg
  have hgl := E.Cfg.fit_len hgf
  refine E.calls_of (vs := [g.v, .int .i64 t, .agg #[.int .i64 a, .int .i64 b]]) (H := []) Try.func34 Try.ntmps34 rfl rfl (E.HA.start w0) ?_
  refine E.CW.seq ?_
  refine E.CW.region ?_
  refine E.OW.box rfl rfl rfl rfl rfl rfl (fun B1 => ?_)
  refine E.OW.box rfl rfl rfl rfl rfl rfl (fun B2 => ?_)
  refine E.OW.pure rfl rfl rfl (E.PV.assign rfl rfl) ?_
  refine E.OW.pure rfl rfl rfl (E.PV.assign rfl rfl) ?_
  refine E.OW.nil ?_
  refine E.then_n ?_
  refine E.CW.seq ?_
  refine E.CW.seq ?_
  refine E.CW.region ?_
  refine E.OW.pure rfl rfl rfl (E.PV.loads (i := 1) is28 rfl rfl rfl rfl) ?_
  refine E.OW.pure rfl rfl rfl (E.PV.move rfl rfl) ?_
  refine E.OW.pure rfl rfl rfl (E.PV.loads (i := 0) is30 rfl rfl rfl rfl) ?_
  (refine E.OW.call nm61 rfl rfl rfl rfl rfl rfl _ (fun w hw => rLe_ok g t a b 0 w ?_ ?_ ?_) ?_; (focus (refine hw.rdC ?_; assumption)); (focus (assumption)); (focus (omega)); rintro _ _ ⟨rfl, rfl⟩)
  refine E.OW.pure rfl rfl rfl (E.PV.assign rfl rfl) ?_
  refine E.OW.nil ?_
  refine E.then_n ?_
  refine E.CW.seq ?_
  refine E.CW.region ?_
  refine E.OW.pure rfl rfl rfl (E.PV.move rfl rfl) ?_
  refine E.OW.pure rfl rfl rfl (E.PV.neq rfl rfl rfl) ?_
  refine E.OW.nil ?_
  refine E.then_n ?_
  refine E.CW.cond rfl (fun hc => ?_) (fun hc => ?_)
  · simp only [E.b0, E.b1, E.b2, E.b3, E.b4, E.b5, E.b6, E.b7, E.b8, E.b9, E.b10, E.b11, E.b12, E.b13, E.b14, E.b15, E.b16, E.b17, E.b18, E.b19, E.b20, reduceCtorEq] at hc
    all_goals (
      refine E.CW.seq ?_
      refine E.CW.nilrow 3 1 ?_
      refine E.CW.region ?_
      refine E.OW.pure rfl rfl rfl (E.PV.move rfl rfl) ?_
      refine E.OW.pure rfl rfl rfl (E.PV.assign rfl rfl) ?_
      refine E.OW.pure rfl rfl rfl (E.PV.assign rfl rfl) ?_
      refine E.OW.nil ?_
      refine E.then_n ?_
      refine E.CW.ret ?_
      refine E.then_ret ?_
      refine E.KR.two [0] Try.results34 rfl rfl rfl ?_
      rw [show Rt.cellsR g.q t a b = ([], Rt.legE g.q t a b 0) from if_neg (by assumption)]
      exact ⟨none, 0, rfl, rfl⟩)
  · simp only [E.b0, E.b1, E.b2, E.b3, E.b4, E.b5, E.b6, E.b7, E.b8, E.b9, E.b10, E.b11, E.b12, E.b13, E.b14, E.b15, E.b16, E.b17, E.b18, E.b19, E.b20, reduceCtorEq] at hc
    all_goals (
      refine E.CW.skip ?_
      refine E.then_n ?_
      refine E.CW.seq ?_
      refine E.CW.region ?_
      refine E.OW.pure rfl rfl rfl (E.PV.assign rfl rfl) ?_
      refine E.OW.nil ?_
      refine E.then_n ?_
      refine E.CW.seq ?_
      refine E.CW.seq ?_
      have hLe := Rt.leg_of (show Rt.legE g.q t a b 0 = 0 by assumption)
      have hTn : Rt.Ten g.q t := ⟨hLe.1.c, hLe.1.p⟩
      have hn64 : g.l.length ≤ 64 := Rt.len_le hTn.c
      refine E.CW.nilrow 3 1 ?_
      refine E.CW.region ?_
      refine E.OW.pure rfl rfl rfl (E.PV.assign rfl rfl) ?_
      refine E.OW.nil ?_
      refine E.then_n ?_
      refine E.CW.block ?_
      refine E.CW.loopk [1, 3, 5] 1 rfl rfl (fun mm mods Hm => ∃ k : Nat, ∃ A : Option Addr, ∃ e : Nat, mm = g.l.length - k ∧ mods = [(10, .int .i64 k), (9, .slice A (Rt.pls k (Rt.G g.q t a b).cell).length e)] ∧ Hm = [E.HP.row 3 1 A (Rt.pls k (Rt.G g.q t a b).cell).length e (E.ints (Rt.pls k (Rt.G g.q t a b).cell))] ∧ k ≤ g.l.length) (g.l.length) ?_ ?_
      · exact ⟨[(10, _), (9, _)], (by repeat (first | exact E.cov_nil | refine ⟨rfl, ?_⟩)), 0, none, 0, rfl, rfl, rfl, by omega⟩
      · rintro _ _ _ ⟨k, A, e, rfl, rfl, rfl, hk⟩
        have hpl := Rt.pls_len k (Rt.G g.q t a b).cell
        refine E.CW.seq ?_
        refine E.CW.seq ?_
        refine E.CW.region ?_
        refine E.OW.pure rfl rfl rfl (E.PV.move rfl rfl) ?_
        refine E.OW.pure rfl rfl rfl (E.PV.fieldAddr fa28_0 rfl rfl) ?_
        refine E.OW.pure rfl rfl rfl (E.PV.fieldAddr fa24_2 rfl rfl) ?_
        refine E.OW.pure rfl rfl rfl (E.PV.load (i := 2) na22 rfl rfl rfl rfl) ?_
        refine E.OW.pure rfl rfl rfl (E.PV.len Try.underlying22 rfl rfl) ?_
        refine E.OW.pure rfl rfl rfl (E.PV.lss rfl rfl rfl) ?_
        refine E.OW.nil ?_
        refine E.then_n ?_
        refine E.CW.cond rfl (fun hc => ?_) (fun hc => ?_)
        · simp only [E.b0, E.b1, E.b2, E.b3, E.b4, E.b5, E.b6, E.b7, E.b8, E.b9, E.b10, E.b11, E.b12, E.b13, E.b14, E.b15, E.b16, E.b17, E.b18, E.b19, E.b20, reduceCtorEq] at hc
          all_goals (
            refine E.CW.skip ?_
            refine E.then_n ?_
            refine E.CW.seq ?_
            refine E.CW.block ?_
            refine E.CW.seq ?_
            refine E.CW.region ?_
            refine E.OW.pure rfl rfl rfl (E.PV.loads (i := 2) is28 rfl rfl rfl rfl) ?_
            refine E.OW.pure rfl rfl rfl (E.PV.move rfl rfl) ?_
            refine E.OW.pure rfl rfl rfl (E.PV.loads (i := 1) is30 rfl rfl rfl rfl) ?_
            refine E.OW.pure rfl rfl rfl (E.PV.move rfl rfl) ?_
            (refine E.OW.call nm77 rfl rfl rfl rfl rfl rfl _ (fun w hw => rHas_ok g t a b k w ?_ ?_ hTn (by omega)) ?_; (focus (refine hw.rdC ?_; assumption)); (focus (assumption)); rintro _ _ ⟨rfl, rfl⟩)
            refine E.OW.nil ?_
            refine E.then_n ?_
            refine E.CW.cond rfl (fun hc => ?_) (fun hc => ?_)
            · skip
              all_goals (
                refine E.CW.region ?_
                refine E.OW.pure rfl rfl rfl (E.PV.move rfl rfl) ?_
                refine E.OW.pure rfl rfl rfl (E.PV.move rfl rfl) ?_
                refine E.OW.buildSlice (Et := 3) (sz := 1) (ps := [(0, .tmp 32)]) rfl rfl rfl rfl rfl (by simp) (by unfold maxLen; omega) (fun w => bsl31_1_0 _ w) (fun A3 => ?_)
                refine E.OW.app_int1 (j := 0) (i := 0) Try.underlying31 in3 rfl rfl rfl rfl rfl rfl rfl rfl rfl rfl ?_ (fun A4 c4 => ?_); (focus ((first | omega | (simp only [List.length_append, List.length_cons, List.length_nil] at *; omega) | (unfold maxLen at *; omega))))
                refine E.OW.pure rfl rfl rfl (E.PV.assign rfl rfl) ?_
                refine E.OW.nil ?_
                refine E.blk_n ?_
                refine E.then_n ?_
                refine E.CW.region ?_
                refine E.OW.pure rfl rfl rfl (E.PV.move rfl rfl) ?_
                refine E.OW.pure rfl rfl rfl (E.PV.add_i64 rfl rfl rfl ?_) ?_; (focus (omega))
                refine E.OW.pure rfl rfl rfl (E.PV.assign rfl rfl) ?_
                refine E.OW.nil ?_
                refine E.then_nf ?_
                refine ⟨_, [(10, _), (9, _)], [0, 0, 0], [_], ?_, by repeat (first | exact E.cov_nil | refine ⟨rfl, ?_⟩), rfl, k + 1, _, _, rfl, by rw [Rt.pls_yes (show (Rt.G g.q t a b).cell k = true by assumption)]; rfl, by rw [Rt.pls_yes (show (Rt.G g.q t a b).cell k = true by assumption)], by omega⟩
                omega)
            · skip
              all_goals (
                refine E.CW.skip ?_
                refine E.blk_n ?_
                refine E.then_n ?_
                refine E.CW.region ?_
                refine E.OW.pure rfl rfl rfl (E.PV.move rfl rfl) ?_
                refine E.OW.pure rfl rfl rfl (E.PV.add_i64 rfl rfl rfl ?_) ?_; (focus (omega))
                refine E.OW.pure rfl rfl rfl (E.PV.assign rfl rfl) ?_
                refine E.OW.nil ?_
                refine E.then_nf ?_
                refine ⟨_, [(10, _), (9, _)], [0, 0, 0], [_], ?_, by repeat (first | exact E.cov_nil | refine ⟨rfl, ?_⟩), rfl, k + 1, A, e, rfl, by rw [Rt.pls_no (show (Rt.G g.q t a b).cell k = false by assumption)]; rfl, by rw [Rt.pls_no (show (Rt.G g.q t a b).cell k = false by assumption)], by omega⟩
                omega))
        · simp only [E.b0, E.b1, E.b2, E.b3, E.b4, E.b5, E.b6, E.b7, E.b8, E.b9, E.b10, E.b11, E.b12, E.b13, E.b14, E.b15, E.b16, E.b17, E.b18, E.b19, E.b20, reduceCtorEq] at hc
          all_goals (
            refine E.CW.exit ?_
            refine E.then_x ?_
            refine E.then_x ?_
            refine E.blk_eq ?_
            refine E.then_n ?_
            refine E.CW.seq ?_
            refine E.CW.region ?_
            refine E.OW.pure rfl rfl rfl (E.PV.move rfl rfl) ?_
            refine E.OW.pure rfl rfl rfl (E.PV.assign rfl rfl) ?_
            refine E.OW.pure rfl rfl rfl (E.PV.assign rfl rfl) ?_
            refine E.OW.nil ?_
            refine E.then_n ?_
            refine E.CW.ret ?_
            refine E.KR.two [0] Try.results34 rfl rfl rfl ?_
            obtain rfl : k = g.l.length := by omega
            rw [show Rt.cellsR g.q t a b = (Rt.pls g.l.length (Rt.G g.q t a b).cell, 0) from if_pos (by assumption)]
            exact ⟨_, _, rfl, rfl⟩))
end Go.Proofs.Ytflkbabhbnmajaa

/- Walks (printed by gen.py). -/
namespace Go.Proofs.Ytflkbabhbnmajaa
open Go Go.RowKit
set_option linter.unusedSimpArgs false
set_option linter.unusedVariables false

set_option maxRecDepth 100000 in
theorem rFi_ok (g : E.Cfg) (a b : Int) (w0 : World) (hg : g.rd w0 (E.Old w0)) (hgf : g.q.fit) (hc0 : Cf.check g.q = 0) (ha : 0 ≤ a ∧ a < (g.l.length : Int)) :
    Calls Try.prog 70 #[g.v, .agg #[.int .i64 a, .int .i64 b]] w0 (E.Post w0 (E.Old w0) fun v Hn => ∃ A2, v = .slice A2 g.l.length g.l.length ∧ Hn = [E.HP.row 4 1 A2 g.l.length g.l.length (E.bls g.l.length (fun q => decide (q = a.toNat)))]) := by
  obtain ⟨hX1, hX2, hX3, hX4⟩ := id hg
  have hgl := E.Cfg.fit_len hgf
  have hn64 : g.l.length ≤ 64 := Rt.len_le hc0
  have hs16 : 1 ≤ g.s.length ∧ g.s.length ≤ 16 := Rt.per_of hc0
  refine E.calls_of (vs := [g.v, .agg #[.int .i64 a, .int .i64 b]]) (H := []) Try.func70 Try.ntmps70 rfl rfl (E.HA.start w0) ?_
  refine E.CW.seq ?_
  refine E.CW.region ?_
  refine E.OW.box rfl rfl rfl rfl rfl rfl (fun B1 => ?_)
  refine E.OW.box rfl rfl rfl rfl rfl rfl (fun B2 => ?_)
  refine E.OW.pure rfl rfl rfl (E.PV.assign rfl rfl) ?_
  refine E.OW.nil ?_
  refine E.then_n ?_
  refine E.CW.seq ?_
  refine E.CW.region ?_
  refine E.OW.pure rfl rfl rfl (E.PV.fieldAddr fa28_0 rfl rfl) ?_
  refine E.OW.pure rfl rfl rfl (E.PV.fieldAddr fa24_2 rfl rfl) ?_
  refine E.OW.pure rfl rfl rfl (E.PV.load (i := 1) na22 rfl rfl rfl rfl) ?_
  refine E.OW.pure rfl rfl rfl (E.PV.len Try.underlying22 rfl rfl) ?_
  refine E.OW.make_bl _ Try.underlying89 in4 rfl rfl rfl rfl rfl rfl rfl ?_ ?_ (fun A3 => ?_); (focus (unfold maxLen; omega)); (focus (omega))
  refine E.OW.pure rfl rfl rfl (E.PV.assign rfl rfl) ?_
  refine E.OW.nil ?_
  refine E.then_n ?_
  refine E.CW.seq ?_
  refine E.CW.region ?_
  refine E.OW.pure rfl rfl rfl (E.PV.move rfl rfl) ?_
  refine E.OW.pure rfl rfl rfl (E.PV.fieldAddr fa30_0 rfl rfl) ?_
  refine E.OW.pure rfl rfl rfl (E.PV.load (i := 1) na3 rfl rfl rfl rfl) ?_
  refine E.OW.pure rfl rfl rfl (E.PV.indexAddr1 (E.rdr (i := 0) rfl) Try.underlying89 in4 rfl rfl rfl (E.tn ?_) ?_ ?_) ?_; (focus (omega)); (focus (first | (simp; done) | (simp; omega))); (focus (omega))
  refine E.OW.store_bl (i := 0) in4.size rfl rfl rfl rfl rfl rfl ?_ ?_; (focus (omega))
  refine E.OW.nil ?_
  refine E.then_n ?_
  refine E.CW.seq ?_
  refine E.CW.region ?_
  refine E.OW.pure rfl rfl rfl (E.PV.move rfl rfl) ?_
  refine E.OW.pure rfl rfl rfl (E.PV.assign rfl rfl) ?_
  refine E.OW.nil ?_
  refine E.then_n ?_
  refine E.CW.ret ?_
  refine E.KR.one [0] Try.results70 rfl rfl ?_
  refine ⟨_, rfl, congrArg (fun r => [E.HP.row 4 1 _ g.l.length g.l.length r]) (E.bls_congr fun q _ => ?_)⟩
  unfold E.up
  by_cases hq : q = a.toNat <;> simp [hq]

set_option maxRecDepth 100000 in
theorem rCs_ok (g : E.Cfg) (t a b : Int) (w0 : World) (hg : g.rd w0 (E.Old w0)) (hgf : g.q.fit) (hTn : Rt.Ten g.q t) :
    Calls Try.prog 71 #[g.v, .int .i64 t, .agg #[.int .i64 a, .int .i64 b]] w0 (E.Post w0 (E.Old w0) fun v Hn => ∃ A2, v = .slice A2 g.l.length g.l.length ∧ Hn = [E.HP.row 4 1 A2 g.l.length g.l.length (E.bls g.l.length ((Rt.G g.q t a b).cell))]) := by
  have hc0 := hTn.c
  obtain ⟨hX1, hX2, hX3, hX4⟩ := id hg
  have hgl := E.Cfg.fit_len hgf
  have hn64 : g.l.length ≤ 64 := Rt.len_le hc0
  have hs16 : 1 ≤ g.s.length ∧ g.s.length ≤ 16 := Rt.per_of hc0
  refine E.calls_of (vs := [g.v, .int .i64 t, .agg #[.int .i64 a, .int .i64 b]]) (H := []) Try.func71 Try.ntmps71 rfl rfl (E.HA.start w0) ?_
  refine E.CW.seq ?_
  refine E.CW.region ?_
  refine E.OW.box rfl rfl rfl rfl rfl rfl (fun B1 => ?_)
  refine E.OW.box rfl rfl rfl rfl rfl rfl (fun B2 => ?_)
  refine E.OW.pure rfl rfl rfl (E.PV.assign rfl rfl) ?_
  refine E.OW.nil ?_
  refine E.then_n ?_
  refine E.CW.seq ?_
  refine E.CW.region ?_
  refine E.OW.pure rfl rfl rfl (E.PV.fieldAddr fa28_0 rfl rfl) ?_
  refine E.OW.pure rfl rfl rfl (E.PV.fieldAddr fa24_2 rfl rfl) ?_
  refine E.OW.pure rfl rfl rfl (E.PV.load (i := 1) na22 rfl rfl rfl rfl) ?_
  refine E.OW.pure rfl rfl rfl (E.PV.len Try.underlying22 rfl rfl) ?_
  refine E.OW.make_bl _ Try.underlying89 in4 rfl rfl rfl rfl rfl rfl rfl ?_ ?_ (fun A3 => ?_); (focus (unfold maxLen; omega)); (focus (omega))
  refine E.OW.pure rfl rfl rfl (E.PV.assign rfl rfl) ?_
  refine E.OW.nil ?_
  refine E.then_n ?_
  refine E.CW.seq ?_
  refine E.CW.seq ?_
  refine E.CW.region ?_
  refine E.OW.pure rfl rfl rfl (E.PV.assign rfl rfl) ?_
  refine E.OW.nil ?_
  refine E.then_n ?_
  refine E.CW.block ?_
  refine E.CW.loopk [1, 3, 5, 7] 1 rfl rfl (fun mm mods Hm => ∃ k : Nat, mm = g.l.length - k ∧ mods = [(8, .int .i64 k)] ∧ Hm = [E.HP.row 4 1 A3 g.l.length g.l.length (E.bls g.l.length (E.ltb k (Rt.G g.q t a b).cell))] ∧ k ≤ g.l.length) (g.l.length) ?_ ?_
  · exact ⟨[(8, _)], (by repeat (first | exact E.cov_nil | refine ⟨rfl, ?_⟩)), 0, rfl, rfl, (by rw [← E.ltb_zero]), by omega⟩
  · rintro _ _ _ ⟨k, rfl, rfl, rfl, hk⟩
    refine E.CW.seq ?_
    refine E.CW.seq ?_
    refine E.CW.region ?_
    refine E.OW.pure rfl rfl rfl (E.PV.move rfl rfl) ?_
    refine E.OW.pure rfl rfl rfl (E.PV.move rfl rfl) ?_
    refine E.OW.pure rfl rfl rfl (E.PV.len Try.underlying89 rfl rfl) ?_
    refine E.OW.pure rfl rfl rfl (E.PV.lss rfl rfl rfl) ?_
    refine E.OW.nil ?_
    refine E.then_n ?_
    refine E.CW.cond rfl (fun hc => ?_) (fun hc => ?_)
    · simp only [E.b0, E.b1, E.b2, E.b3, E.b4, E.b5, E.b6, E.b7, E.b8, E.b9, E.b10, E.b11, E.b12, E.b13, E.b14, E.b15, E.b16, E.b17, E.b18, E.b19, E.b20, reduceCtorEq] at hc
      all_goals (
        refine E.CW.skip ?_
        refine E.then_n ?_
        refine E.CW.seq ?_
        refine E.CW.block ?_
        refine E.CW.region ?_
        refine E.OW.pure rfl rfl rfl (E.PV.move rfl rfl) ?_
        refine E.OW.pure rfl rfl rfl (E.PV.move rfl rfl) ?_
        refine E.OW.pure rfl rfl rfl (E.PV.loads (i := 2) is28 rfl rfl rfl rfl) ?_
        refine E.OW.pure rfl rfl rfl (E.PV.move rfl rfl) ?_
        refine E.OW.pure rfl rfl rfl (E.PV.loads (i := 1) is30 rfl rfl rfl rfl) ?_
        refine E.OW.pure rfl rfl rfl (E.PV.move rfl rfl) ?_
        (refine E.OW.call nm77 rfl rfl rfl rfl rfl rfl _ (fun w hw => rHas_ok g t a b k w ?_ ?_ hTn (by omega)) ?_; (focus (refine hw.rdC ?_; assumption)); (focus (assumption)); rintro _ _ ⟨rfl, rfl⟩)
        refine E.OW.pure rfl rfl rfl (E.PV.indexAddr1 (E.rdr (i := 0) rfl) Try.underlying89 in4 rfl rfl rfl rfl ?_ ?_) ?_; (focus (first | (simp; done) | (simp; omega))); (focus (omega))
        refine E.OW.store_bl (i := 0) in4.size rfl rfl rfl rfl rfl rfl ?_ ?_; (focus (omega))
        refine E.OW.nil ?_
        refine E.blk_n ?_
        refine E.then_n ?_
        refine E.CW.region ?_
        refine E.OW.pure rfl rfl rfl (E.PV.move rfl rfl) ?_
        refine E.OW.pure rfl rfl rfl (E.PV.add_i64 rfl rfl rfl ?_) ?_; (focus (omega))
        refine E.OW.pure rfl rfl rfl (E.PV.assign rfl rfl) ?_
        refine E.OW.nil ?_
        refine E.then_nf ?_
        refine ⟨_, [(8, _)], [0, 0, 0], [_], ?_, by repeat (first | exact E.cov_nil | refine ⟨rfl, ?_⟩), rfl, k + 1, rfl, rfl, congrArg (fun r => [E.HP.row 4 1 A3 g.l.length g.l.length r]) (E.ltb_set rfl), by omega⟩
        omega)
    · simp only [E.b0, E.b1, E.b2, E.b3, E.b4, E.b5, E.b6, E.b7, E.b8, E.b9, E.b10, E.b11, E.b12, E.b13, E.b14, E.b15, E.b16, E.b17, E.b18, E.b19, E.b20, reduceCtorEq] at hc
      all_goals (
        refine E.CW.exit ?_
        refine E.then_x ?_
        refine E.then_x ?_
        refine E.blk_eq ?_
        refine E.then_n ?_
        refine E.CW.seq ?_
        refine E.CW.region ?_
        refine E.OW.pure rfl rfl rfl (E.PV.move rfl rfl) ?_
        refine E.OW.pure rfl rfl rfl (E.PV.assign rfl rfl) ?_
        refine E.OW.nil ?_
        refine E.then_n ?_
        refine E.CW.ret ?_
        refine E.KR.one [0] Try.results71 rfl rfl ?_
        obtain rfl : k = g.l.length := by omega
        rw [E.ltb_all]
        exact ⟨_, rfl, rfl⟩)

set_option maxRecDepth 100000 in
theorem rLt_ok (g : E.Cfg) (t a b tick : Int) (Ah As : Option Addr) (k0 a0 m : Nat) (w0 : World) (hg : g.rd w0 (E.Old w0)) (hgf : g.q.fit) (ht : 0 ≤ tick ∧ tick < 18446744073709551616) (hTn : Rt.Ten g.q t) (hX : E.Rd w0 (E.Old w0) Ah (E.bls g.l.length (Rt.G g.q t a b).cell)) (hY : E.Rd w0 (E.Old w0) As (E.bls g.l.length (Bf.R (Rt.G g.q t a b) k0 a0 m))) (hkm : (k0 + m + 1) % g.s.length = Rt.ph g.q tick) :
    Calls Try.prog 72 #[g.v, .int .i64 t, .slice Ah g.l.length g.l.length, .slice As g.l.length g.l.length, .int .u64 tick] w0 (E.Post w0 (E.Old w0) fun v Hn => ∃ A2, v = .slice A2 g.l.length g.l.length ∧ Hn = [E.HP.row 4 1 A2 g.l.length g.l.length (E.bls g.l.length (Bf.R (Rt.G g.q t a b) k0 a0 (m + 1)))]) := by
  have hc0 := hTn.c
  obtain ⟨hX1, hX2, hX3, hX4⟩ := id hg
  have hgl := E.Cfg.fit_len hgf
  have hn64 : g.l.length ≤ 64 := Rt.len_le hc0
  have hs16 : 1 ≤ g.s.length ∧ g.s.length ≤ 16 := Rt.per_of hc0
  have hsd : 2 ≤ g.a ∧ g.a ≤ 8 ∧ 2 ≤ g.b ∧ g.b ≤ 8 := Rt.sides_of hc0
  have hln : (g.l.length : Int) = g.a * g.b := Rt.len_of hc0
  refine E.calls_of (vs := [g.v, .int .i64 t, .slice Ah g.l.length g.l.length, .slice As g.l.length g.l.length, .int .u64 tick]) (H := []) Try.func72 Try.ntmps72 rfl rfl (E.HA.start w0) ?_
  refine E.CW.seq ?_
  refine E.CW.region ?_
  refine E.OW.box rfl rfl rfl rfl rfl rfl (fun B1 => ?_)
  refine E.OW.pure rfl rfl rfl (E.PV.assign rfl rfl) ?_
  refine E.OW.nil ?_
  refine E.then_n ?_
  refine E.CW.seq ?_
  refine E.CW.region ?_
  refine E.OW.pure rfl rfl rfl (E.PV.move rfl rfl) ?_
  refine E.OW.pure rfl rfl rfl (E.PV.len Try.underlying89 rfl rfl) ?_
  refine E.OW.make_bl _ Try.underlying89 in4 rfl rfl rfl rfl rfl rfl rfl ?_ ?_ (fun A2 => ?_); (focus (unfold maxLen; omega)); (focus (omega))
  refine E.OW.pure rfl rfl rfl (E.PV.assign rfl rfl) ?_
  refine E.OW.nil ?_
  refine E.then_n ?_
  refine E.CW.seq ?_
  refine E.CW.seq ?_
  refine E.CW.region ?_
  refine E.OW.pure rfl rfl rfl (E.PV.assign rfl rfl) ?_
  refine E.OW.nil ?_
  refine E.then_n ?_
  refine E.CW.block ?_
  refine E.CW.loopk [1, 2, 3, 4, 5, 11] 1 rfl rfl (fun mm mods Hm => ∃ p : Nat, mm = g.l.length - p ∧ mods = [(12, .int .i64 p)] ∧ Hm = [E.HP.row 4 1 A2 g.l.length g.l.length (E.bls g.l.length (Rt.ltf g.q (Bf.R (Rt.G g.q t a b) k0 a0 m) p))] ∧ p ≤ g.l.length) (g.l.length) ?_ ?_
  · exact ⟨[(12, _)], (by repeat (first | exact E.cov_nil | refine ⟨rfl, ?_⟩)), 0, rfl, rfl, (by rw [← Rt.ltf_zero]), by omega⟩
  · rintro _ _ _ ⟨p, rfl, rfl, rfl, hp⟩
    refine E.CW.seq ?_
    refine E.CW.seq ?_
    refine E.CW.region ?_
    refine E.OW.pure rfl rfl rfl (E.PV.move rfl rfl) ?_
    refine E.OW.pure rfl rfl rfl (E.PV.move rfl rfl) ?_
    refine E.OW.pure rfl rfl rfl (E.PV.len Try.underlying89 rfl rfl) ?_
    refine E.OW.pure rfl rfl rfl (E.PV.lss rfl rfl rfl) ?_
    refine E.OW.nil ?_
    refine E.then_n ?_
    refine E.CW.cond rfl (fun hc => ?_) (fun hc => ?_)
    · simp only [E.b0, E.b1, E.b2, E.b3, E.b4, E.b5, E.b6, E.b7, E.b8, E.b9, E.b10, E.b11, E.b12, E.b13, E.b14, E.b15, E.b16, E.b17, E.b18, E.b19, E.b20, reduceCtorEq] at hc
      all_goals (
        refine E.CW.skip ?_
        refine E.then_n ?_
        refine E.CW.seq ?_
        refine E.CW.block ?_
        refine E.CW.seq ?_
        refine E.CW.seq ?_
        refine E.CW.region ?_
        refine E.OW.pure rfl rfl rfl (E.PV.move rfl rfl) ?_
        refine E.OW.pure rfl rfl rfl (E.PV.move rfl rfl) ?_
        refine E.OW.pure rfl rfl rfl (E.PV.indexAddr1 (E.rdc hY) Try.underlying89 in4 rfl rfl rfl rfl ?_ ?_) ?_; (focus (first | (simp; done) | (simp; omega))); (focus (omega))
        refine E.OW.pure rfl rfl rfl (E.PV.load_bl (E.rdc hY) na4 rfl rfl ?_) ?_; (focus (omega))
        refine E.OW.pure rfl rfl rfl (E.PV.not rfl rfl) ?_
        refine E.OW.nil ?_
        refine E.then_n ?_
        refine E.CW.cond rfl (fun hc => ?_) (fun hc => ?_)
        · simp only [E.b0, E.b1, E.b2, E.b3, E.b4, E.b5, E.b6, E.b7, E.b8, E.b9, E.b10, E.b11, E.b12, E.b13, E.b14, E.b15, E.b16, E.b17, E.b18, E.b19, E.b20, reduceCtorEq] at hc
          all_goals (
            refine E.CW.exit ?_
            refine E.then_x ?_
            refine E.blk_eq ?_
            refine E.then_n ?_
            refine E.CW.region ?_
            refine E.OW.pure rfl rfl rfl (E.PV.move rfl rfl) ?_
            refine E.OW.pure rfl rfl rfl (E.PV.add_i64 rfl rfl rfl ?_) ?_; (focus (omega))
            refine E.OW.pure rfl rfl rfl (E.PV.assign rfl rfl) ?_
            refine E.OW.nil ?_
            refine E.then_nf ?_
            refine ⟨_, [(12, _)], [0, 0], [_], ?_, by repeat (first | exact E.cov_nil | refine ⟨rfl, ?_⟩), rfl, p + 1, rfl, rfl, (by rw [Rt.ltf_skip (by assumption)]), by omega⟩
            omega)
        · simp only [E.b0, E.b1, E.b2, E.b3, E.b4, E.b5, E.b6, E.b7, E.b8, E.b9, E.b10, E.b11, E.b12, E.b13, E.b14, E.b15, E.b16, E.b17, E.b18, E.b19, E.b20, reduceCtorEq] at hc
          all_goals (
            refine E.CW.skip ?_
            refine E.then_n ?_
            refine E.CW.seq ?_
            refine E.CW.region ?_
            refine E.OW.pure rfl rfl rfl (E.PV.move rfl rfl) ?_
            refine E.OW.pure rfl rfl rfl (E.PV.move rfl rfl) ?_
            refine E.OW.pure rfl rfl rfl (E.PV.indexAddr1 (E.rdr (i := 0) rfl) Try.underlying89 in4 rfl rfl rfl rfl ?_ ?_) ?_; (focus (first | (simp; done) | (simp; omega))); (focus (omega))
            refine E.OW.store_bl (i := 0) in4.size rfl rfl rfl rfl rfl rfl ?_ ?_; (focus (omega))
            refine E.OW.nil ?_
            refine E.then_n ?_
            refine E.CW.seq ?_
            refine E.CW.region ?_
            refine E.OW.pure rfl rfl rfl (E.PV.assign rfl rfl) ?_
            refine E.OW.nil ?_
            refine E.then_n ?_
            refine E.CW.block ?_
            refine E.CW.loopk [1, 2, 3, 4, 5, 11, 12] 1 rfl rfl (fun mm mods Hm => ∃ d : Nat, mm = 4 - d ∧ mods = [(13, .int .i64 d)] ∧ Hm = [E.HP.row 4 1 A2 g.l.length g.l.length (E.bls g.l.length (Rt.ltd g.q (Bf.R (Rt.G g.q t a b) k0 a0 m) p d))] ∧ d ≤ 4) (4) ?_ ?_
            · exact ⟨[(13, _)], (by repeat (first | exact E.cov_nil | refine ⟨rfl, ?_⟩)), 0, rfl, rfl, (by rw [← Rt.ltd_zero]), by omega⟩
            · rintro _ _ _ ⟨d, rfl, rfl, rfl, hd⟩
              refine E.CW.seq ?_
              refine E.CW.seq ?_
              refine E.CW.region ?_
              refine E.OW.pure rfl rfl rfl (E.PV.move rfl rfl) ?_
              refine E.OW.pure rfl rfl rfl (E.PV.lss rfl rfl rfl) ?_
              refine E.OW.nil ?_
              refine E.then_n ?_
              refine E.CW.cond rfl (fun hc => ?_) (fun hc => ?_)
              · simp only [E.b0, E.b1, E.b2, E.b3, E.b4, E.b5, E.b6, E.b7, E.b8, E.b9, E.b10, E.b11, E.b12, E.b13, E.b14, E.b15, E.b16, E.b17, E.b18, E.b19, E.b20, reduceCtorEq] at hc
                all_goals (
                  refine E.CW.skip ?_
                  refine E.then_n ?_
                  refine E.CW.seq ?_
                  refine E.CW.block ?_
                  refine E.CW.seq ?_
                  refine E.CW.region ?_
                  refine E.OW.pure rfl rfl rfl (E.PV.fieldAddr fa28_0 rfl rfl) ?_
                  refine E.OW.pure rfl rfl rfl (E.PV.fieldAddr fa24_0 rfl rfl) ?_
                  refine E.OW.pure rfl rfl rfl (E.PV.load (i := 1) na3 rfl rfl rfl rfl) ?_
                  refine E.OW.pure rfl rfl rfl (E.PV.fieldAddr fa28_0 rfl rfl) ?_
                  refine E.OW.pure rfl rfl rfl (E.PV.fieldAddr fa24_1 rfl rfl) ?_
                  refine E.OW.pure rfl rfl rfl (E.PV.load (i := 1) na3 rfl rfl rfl rfl) ?_
                  refine E.OW.pure rfl rfl rfl (E.PV.move rfl rfl) ?_
                  refine E.OW.pure rfl rfl rfl (E.PV.move rfl rfl) ?_
                  (refine E.OW.call nm104 rfl rfl rfl rfl rfl rfl _ (fun w hw => rMove_ok _ _ _ _ hsd (show 0 ≤ (p : Int) ∧ (p : Int) < g.a * g.b by omega) (by omega) w) ?_; rintro _ _ ⟨rfl, rfl⟩)
                  refine E.OW.pure rfl rfl rfl (E.PV.assign rfl rfl) ?_
                  refine E.OW.nil ?_
                  refine E.then_n ?_
                  refine E.CW.seq ?_
                  refine E.CW.region ?_
                  refine E.OW.pure rfl rfl rfl (E.PV.move rfl rfl) ?_
                  refine E.OW.pure rfl rfl rfl (E.PV.geq rfl rfl rfl) ?_
                  refine E.OW.nil ?_
                  refine E.then_n ?_
                  refine E.CW.cond rfl (fun hc => ?_) (fun hc => ?_)
                  · simp only [E.b0, E.b1, E.b2, E.b3, E.b4, E.b5, E.b6, E.b7, E.b8, E.b9, E.b10, E.b11, E.b12, E.b13, E.b14, E.b15, E.b16, E.b17, E.b18, E.b19, E.b20, reduceCtorEq] at hc
                    all_goals (
                      have hmb := Fl.mv_ge (p := p) hsd (show 0 ≤ Fl.mv g.a g.b p d by assumption)
                      refine E.CW.region ?_
                      refine E.OW.pure rfl rfl rfl (E.PV.move rfl rfl) ?_
                      refine E.OW.pure rfl rfl rfl (E.PV.move rfl rfl) ?_
                      refine E.OW.pure rfl rfl rfl (E.PV.indexAddr1 (E.rdr (i := 0) rfl) Try.underlying89 in4 rfl rfl rfl (E.tn ?_) ?_ ?_) ?_; (focus (omega)); (focus (first | (simp; done) | (simp; omega))); (focus (omega))
                      refine E.OW.store_bl (i := 0) in4.size rfl rfl rfl rfl rfl rfl ?_ ?_; (focus (omega))
                      refine E.OW.nil ?_
                      refine E.blk_n ?_
                      refine E.then_n ?_
                      refine E.CW.region ?_
                      refine E.OW.pure rfl rfl rfl (E.PV.move rfl rfl) ?_
                      refine E.OW.pure rfl rfl rfl (E.PV.add_i64 rfl rfl rfl ?_) ?_; (focus (omega))
                      refine E.OW.pure rfl rfl rfl (E.PV.assign rfl rfl) ?_
                      refine E.OW.nil ?_
                      refine E.then_nf ?_
                      refine ⟨_, [(13, _)], [0, 0], [_], ?_, by repeat (first | exact E.cov_nil | refine ⟨rfl, ?_⟩), rfl, d + 1, rfl, rfl, congrArg (fun r => [E.HP.row 4 1 A2 g.l.length g.l.length r]) (Rt.ltd_yes (g := g.q) (by assumption)), by omega⟩
                      omega)
                  · simp only [E.b0, E.b1, E.b2, E.b3, E.b4, E.b5, E.b6, E.b7, E.b8, E.b9, E.b10, E.b11, E.b12, E.b13, E.b14, E.b15, E.b16, E.b17, E.b18, E.b19, E.b20, reduceCtorEq] at hc
                    all_goals (
                      refine E.CW.skip ?_
                      refine E.blk_n ?_
                      refine E.then_n ?_
                      refine E.CW.region ?_
                      refine E.OW.pure rfl rfl rfl (E.PV.move rfl rfl) ?_
                      refine E.OW.pure rfl rfl rfl (E.PV.add_i64 rfl rfl rfl ?_) ?_; (focus (omega))
                      refine E.OW.pure rfl rfl rfl (E.PV.assign rfl rfl) ?_
                      refine E.OW.nil ?_
                      refine E.then_nf ?_
                      refine ⟨_, [(13, _)], [0, 0], [_], ?_, by repeat (first | exact E.cov_nil | refine ⟨rfl, ?_⟩), rfl, d + 1, rfl, rfl, congrArg (fun r => [E.HP.row 4 1 A2 g.l.length g.l.length r]) (Rt.ltd_no (g := g.q) (by assumption)), by omega⟩
                      omega))
              · simp only [E.b0, E.b1, E.b2, E.b3, E.b4, E.b5, E.b6, E.b7, E.b8, E.b9, E.b10, E.b11, E.b12, E.b13, E.b14, E.b15, E.b16, E.b17, E.b18, E.b19, E.b20, reduceCtorEq] at hc
                all_goals (
                  refine E.CW.exit ?_
                  refine E.then_x ?_
                  refine E.then_x ?_
                  refine E.blk_eq ?_
                  refine E.blk_n ?_
                  refine E.then_n ?_
                  refine E.CW.region ?_
                  refine E.OW.pure rfl rfl rfl (E.PV.move rfl rfl) ?_
                  refine E.OW.pure rfl rfl rfl (E.PV.add_i64 rfl rfl rfl ?_) ?_; (focus (omega))
                  refine E.OW.pure rfl rfl rfl (E.PV.assign rfl rfl) ?_
                  refine E.OW.nil ?_
                  refine E.then_nf ?_
                  refine ⟨_, [(12, _)], [0, 0], [_], ?_, by repeat (first | exact E.cov_nil | refine ⟨rfl, ?_⟩), rfl, p + 1, rfl, rfl, (by rw [Rt.ltd_all (by omega) (by assumption)]), by omega⟩
                  omega)))
    · simp only [E.b0, E.b1, E.b2, E.b3, E.b4, E.b5, E.b6, E.b7, E.b8, E.b9, E.b10, E.b11, E.b12, E.b13, E.b14, E.b15, E.b16, E.b17, E.b18, E.b19, E.b20, reduceCtorEq] at hc
      all_goals (
        refine E.CW.exit ?_
        refine E.then_x ?_
        refine E.then_x ?_
        refine E.blk_eq ?_
        refine E.then_n ?_
        refine E.CW.seq ?_
        refine E.CW.seq ?_
        refine E.CW.region ?_
        refine E.OW.pure rfl rfl rfl (E.PV.assign rfl rfl) ?_
        refine E.OW.nil ?_
        refine E.then_n ?_
        refine E.CW.block ?_
        refine E.CW.loopk [1, 2, 4, 5, 11] 1 rfl rfl (fun mm mods Hm => ∃ i : Nat, mm = g.l.length - i ∧ mods = [(15, .int .i64 i)] ∧ Hm = [E.HP.row 4 1 A2 g.l.length g.l.length (E.bls g.l.length (Rt.lef g.q (Bf.R (Rt.G g.q t a b) k0 a0 m) (fun (q : Nat) => Rt.alw g.q t a b tick (q : Int)) i))] ∧ i ≤ g.l.length) (g.l.length) ?_ ?_
        · exact ⟨[(15, _)], (by repeat (first | exact E.cov_nil | refine ⟨rfl, ?_⟩)), 0, rfl, rfl, (by rw [← Rt.lef_zero (g := g.q) (show p = g.q.l.length by show p = g.l.length; omega)]), by omega⟩
        · rintro _ _ _ ⟨i, rfl, rfl, rfl, hi⟩
          have hal := Rt.alw_allows (g := g.q) (t := t) (a := a) (b := b) (p := (i : Int)) (tick := tick) hTn.c
          have hcl : (Rt.G g.q t a b).cell i = Rt.has g.q t a b (i : Int) := rfl
          refine E.CW.seq ?_
          refine E.CW.seq ?_
          refine E.CW.region ?_
          refine E.OW.pure rfl rfl rfl (E.PV.move rfl rfl) ?_
          refine E.OW.pure rfl rfl rfl (E.PV.move rfl rfl) ?_
          refine E.OW.pure rfl rfl rfl (E.PV.len Try.underlying89 rfl rfl) ?_
          refine E.OW.pure rfl rfl rfl (E.PV.lss rfl rfl rfl) ?_
          refine E.OW.nil ?_
          refine E.then_n ?_
          refine E.CW.cond rfl (fun hc => ?_) (fun hc => ?_)
          · simp only [E.b0, E.b1, E.b2, E.b3, E.b4, E.b5, E.b6, E.b7, E.b8, E.b9, E.b10, E.b11, E.b12, E.b13, E.b14, E.b15, E.b16, E.b17, E.b18, E.b19, E.b20, reduceCtorEq] at hc
            all_goals (
              refine E.CW.skip ?_
              refine E.then_n ?_
              refine E.CW.seq ?_
              refine E.CW.block ?_
              refine E.CW.region ?_
              refine E.OW.pure rfl rfl rfl (E.PV.move rfl rfl) ?_
              refine E.OW.pure rfl rfl rfl (E.PV.move rfl rfl) ?_
              refine E.OW.pure rfl rfl rfl (E.PV.move rfl rfl) ?_
              refine E.OW.pure rfl rfl rfl (E.PV.move rfl rfl) ?_
              refine E.OW.pure rfl rfl rfl (E.PV.indexAddr1 (E.rdr (i := 0) rfl) Try.underlying89 in4 rfl rfl rfl rfl ?_ ?_) ?_; (focus (first | (simp; done) | (simp; omega))); (focus (omega))
              refine E.OW.pure rfl rfl rfl (E.PV.load_bl (E.rdr (i := 0) rfl) na4 rfl rfl ?_) ?_; (focus (omega))
              refine E.OW.pure rfl rfl rfl (E.PV.move rfl rfl) ?_
              all_goals (refine E.OW.split 63 rfl (fun hc => ?_) (fun hc => ?_) <;> (try simp only [E.b0, E.b1, E.b2, E.b3, E.b4, E.b5, E.b6, E.b7, E.b8, E.b9, E.b10, E.b11, E.b12, E.b13, E.b14, E.b15, E.b16, E.b17, E.b18, E.b19, E.b20, reduceCtorEq] at hc) <;> (try (exfalso; first | assumption | contradiction | omega)))
              all_goals (first | (refine E.OW.off rfl rfl rfl ?_) | (refine E.OW.pure rfl rfl rfl (E.PV.move rfl rfl) ?_))
              all_goals (first | (refine E.OW.off rfl rfl rfl ?_) | (refine E.OW.pure rfl rfl rfl (E.PV.move rfl rfl) ?_))
              all_goals (first | (refine E.OW.off rfl rfl rfl ?_) | (refine E.OW.pure rfl rfl rfl (E.PV.indexAddr1 (E.rdc hX) Try.underlying89 in4 rfl rfl rfl rfl ?_ ?_) ?_; (focus (first | (simp; done) | (simp; omega))); (focus (omega))))
              all_goals (first | (refine E.OW.off rfl rfl rfl ?_) | (refine E.OW.pure rfl rfl rfl (E.PV.load_bl (E.rdc hX) na4 rfl rfl ?_) ?_; (focus (omega))))
              all_goals (first | (refine E.OW.pure rfl rfl rfl (E.PV.pick_t rfl rfl rfl) ?_) | (refine E.OW.pure rfl rfl rfl (E.PV.pick_f rfl rfl rfl) ?_))
              all_goals (refine E.OW.pure rfl rfl rfl (E.PV.move rfl rfl) ?_)
              all_goals (first | (refine E.OW.put 69 (.bool false) (v := .bool false) rfl rfl ?_) | (refine E.OW.split 69 rfl (fun hc => ?_) (fun hc => ?_) <;> (try simp only [E.b0, E.b1, E.b2, E.b3, E.b4, E.b5, E.b6, E.b7, E.b8, E.b9, E.b10, E.b11, E.b12, E.b13, E.b14, E.b15, E.b16, E.b17, E.b18, E.b19, E.b20, reduceCtorEq] at hc) <;> (try (exfalso; first | assumption | contradiction | omega))))
              all_goals (first | (refine E.OW.off rfl rfl rfl ?_) | (refine E.OW.pure rfl rfl rfl (E.PV.loads (i := 1) is28 rfl rfl rfl rfl) ?_))
              all_goals (first | (refine E.OW.off rfl rfl rfl ?_) | (refine E.OW.pure rfl rfl rfl (E.PV.move rfl rfl) ?_))
              all_goals (first | (refine E.OW.off rfl rfl rfl ?_) | (refine E.OW.pure rfl rfl rfl (E.PV.move rfl rfl) ?_))
              all_goals (first | (refine E.OW.off rfl rfl rfl ?_) | (refine E.OW.pure rfl rfl rfl (E.PV.move rfl rfl) ?_))
              all_goals (first | (refine E.OW.off rfl rfl rfl ?_) | ((refine E.OW.call nm76 rfl rfl rfl rfl rfl rfl _ (fun w hw => rAl_ok g t i tick w ?_ ?_ ?_ hTn (by omega)) ?_; (focus (refine hw.rdC ?_; assumption)); (focus (assumption)); (focus (assumption)); rintro _ _ ⟨rfl, rfl⟩)))
              all_goals (first | (refine E.OW.pure rfl rfl rfl (E.PV.pick_t rfl rfl rfl) ?_) | (refine E.OW.pure rfl rfl rfl (E.PV.pick_f rfl rfl rfl) ?_))
              all_goals (refine E.OW.pure rfl rfl rfl (E.PV.indexAddr1 (E.rdr (i := 0) rfl) Try.underlying89 in4 rfl rfl rfl rfl ?_ ?_) ?_; (focus (first | (simp; done) | (simp; omega))); (focus (omega)))
              all_goals (refine E.OW.store_bl (i := 0) in4.size rfl rfl rfl rfl rfl rfl ?_ ?_; (focus (omega)))
              all_goals (
                refine E.OW.nil ?_
                refine E.blk_n ?_
                refine E.then_n ?_
                refine E.CW.region ?_
                refine E.OW.pure rfl rfl rfl (E.PV.move rfl rfl) ?_
                refine E.OW.pure rfl rfl rfl (E.PV.add_i64 rfl rfl rfl ?_) ?_; (focus (omega))
                refine E.OW.pure rfl rfl rfl (E.PV.assign rfl rfl) ?_
                refine E.OW.nil ?_
                refine E.then_nf ?_
                refine ⟨_, [(15, _)], [0, 0], [_], ?_, by repeat (first | exact E.cov_nil | refine ⟨rfl, ?_⟩), rfl, i + 1, rfl, rfl, congrArg (fun r => [E.HP.row 4 1 A2 g.l.length g.l.length r]) (Rt.lef_step (by show _ = (_ && Rt.alw g.q t a b tick (i : Int)); rw [hal, ← hcl]; simp_all)), by omega⟩
                omega))
          · simp only [E.b0, E.b1, E.b2, E.b3, E.b4, E.b5, E.b6, E.b7, E.b8, E.b9, E.b10, E.b11, E.b12, E.b13, E.b14, E.b15, E.b16, E.b17, E.b18, E.b19, E.b20, reduceCtorEq] at hc
            all_goals (
              refine E.CW.exit ?_
              refine E.then_x ?_
              refine E.then_x ?_
              refine E.blk_eq ?_
              refine E.then_n ?_
              refine E.CW.seq ?_
              refine E.CW.region ?_
              refine E.OW.pure rfl rfl rfl (E.PV.move rfl rfl) ?_
              refine E.OW.pure rfl rfl rfl (E.PV.assign rfl rfl) ?_
              refine E.OW.nil ?_
              refine E.then_n ?_
              refine E.CW.ret ?_
              refine E.KR.one [0] Try.results72 rfl rfl ?_
              exact ⟨_, rfl, congrArg (fun r => [E.HP.row 4 1 A2 g.l.length g.l.length r]) (Rt.lef_R (g := g.q) (n := g.l.length) hc0 rfl (show i = g.l.length by omega) hkm (fun q => rfl))⟩))
end Go.Proofs.Ytflkbabhbnmajaa

/- Closed facts on the program (printed by gen.py). -/
namespace Go.Proofs.Ytflkbabhbnmajaa
open Go Go.RowKit
set_option linter.unusedSimpArgs false
set_option linter.unusedVariables false
theorem nm70 : E.Nm Try.prog 70 := ⟨Try.f70, Try.func70, rfl, by kernel_rfl⟩
theorem nm71 : E.Nm Try.prog 71 := ⟨Try.f71, Try.func71, rfl, by kernel_rfl⟩
theorem nm72 : E.Nm Try.prog 72 := ⟨Try.f72, Try.func72, rfl, by kernel_rfl⟩
end Go.Proofs.Ytflkbabhbnmajaa

/- Walks (printed by gen.py). -/
namespace Go.Proofs.Ytflkbabhbnmajaa
open Go Go.RowKit
set_option linter.unusedSimpArgs false
set_option linter.unusedVariables false

set_option maxRecDepth 100000 in
theorem rAr_ok (g : E.Cfg) (t a b tick : Int) (w0 : World) (hg : g.rd w0 (E.Old w0)) (hgf : g.q.fit) (ht : 0 ≤ tick ∧ tick ≤ 4611686018427389952) (hL : Rt.Leg g.q t a b) :
    Calls Try.prog 65 #[g.v, .int .i64 t, .agg #[.int .i64 a, .int .i64 b], .int .u64 tick] w0 (E.Post w0 (E.Old w0) fun v Hn => v = .int .i64 (Rt.arrv g.q t a b tick) ∧ Hn = []) := by
  have hc0 := hL.c
  have hTn : Rt.Ten g.q t := ⟨hL.c, hL.p⟩
  have hra : 0 ≤ a ∧ a < (g.l.length : Int) := hL.ra
  have hrb : 0 ≤ b ∧ b < (g.l.length : Int) := hL.rb
  obtain ⟨hX1, hX2, hX3, hX4⟩ := id hg
  have hgl := E.Cfg.fit_len hgf
  have hn64 : g.l.length ≤ 64 := Rt.len_le hc0
  have hs16 : 1 ≤ g.s.length ∧ g.s.length ≤ 16 := Rt.per_of hc0
  refine E.calls_of (vs := [g.v, .int .i64 t, .agg #[.int .i64 a, .int .i64 b], .int .u64 tick]) (H := []) Try.func65 Try.ntmps65 rfl rfl (E.HA.start w0) ?_
  refine E.CW.seq ?_
  refine E.CW.region ?_
  refine E.OW.box rfl rfl rfl rfl rfl rfl (fun B1 => ?_)
  refine E.OW.box rfl rfl rfl rfl rfl rfl (fun B2 => ?_)
  refine E.OW.pure rfl rfl rfl (E.PV.assign rfl rfl) ?_
  refine E.OW.nil ?_
  refine E.then_n ?_
  refine E.CW.cut [1, 3, 4, 6] 0 rfl rfl (fun mods Hm => ∃ As : Option Addr, ∃ Ah : Option Addr, mods = [(9, .slice As g.l.length g.l.length), (10, .slice Ah g.l.length g.l.length)] ∧ Hm = [E.HP.row 4 1 As g.l.length g.l.length (E.bls g.l.length (fun q => decide (q = a.toNat))), E.HP.row 4 1 Ah g.l.length g.l.length (E.bls g.l.length ((Rt.G g.q t a b).cell))] ∧ True) ?_ ?_
  · skip
    refine E.CW.drawx mixed [0, 0] rfl ?_
    all_goals (refine E.AW.first 0 rfl (by kernel_rfl) (by kernel_rfl) (by kernel_rfl) rfl rfl rfl (E.PV.loads (i := 1) is28 rfl rfl rfl rfl) ?_)
    all_goals (refine E.AW.first 1 rfl (by kernel_rfl) (by kernel_rfl) (by kernel_rfl) rfl rfl rfl (E.PV.loads (i := 0) is30 rfl rfl rfl rfl) ?_)
    all_goals (refine E.AW.first 3 rfl (by kernel_rfl) (by kernel_rfl) (by kernel_rfl) rfl rfl rfl (E.PV.loads (i := 1) is28 rfl rfl rfl rfl) ?_)
    all_goals (refine E.AW.first 4 rfl (by kernel_rfl) (by kernel_rfl) (by kernel_rfl) rfl rfl rfl (E.PV.move rfl rfl) ?_)
    all_goals (refine E.AW.first 5 rfl (by kernel_rfl) (by kernel_rfl) (by kernel_rfl) rfl rfl rfl (E.PV.loads (i := 0) is30 rfl rfl rfl rfl) ?_)
    all_goals (refine E.AW.one 2 (by kernel_rfl) rfl ?_)
    all_goals ((refine E.OW.call nm70 rfl rfl rfl rfl rfl rfl _ (fun w hw => rFi_ok g a b w ?_ ?_ hc0 hra) ?_; (focus (refine hw.rdC ?_; assumption)); (focus (assumption)); rintro _ _ ⟨AFi, rfl, rfl⟩))
    all_goals (first | (refine E.AW.nil [0, 0] rfl ?_) | (refine E.AW.nil [1, 1] rfl ?_) | (refine E.AW.nil [2, 2] rfl ?_) | (refine E.AW.nil [3, 3] rfl ?_) | (refine E.AW.nil [4, 4] rfl ?_) | (refine E.AW.nil [5, 5] rfl ?_) | (refine E.AW.nil [6, 6] rfl ?_) | (refine E.AW.nil [0, 0] rfl ?_) | (refine E.AW.nil [0, 0] rfl ?_))
    all_goals (refine E.AW.one 6 (by kernel_rfl) rfl ?_)
    all_goals ((refine E.OW.call nm71 rfl rfl rfl rfl rfl rfl _ (fun w hw => rCs_ok g t a b w ?_ ?_ hTn) ?_; (focus (refine hw.rdC ?_; assumption)); (focus (assumption)); rintro _ _ ⟨ACs, rfl, rfl⟩))
    all_goals (first | (refine E.AW.nil [0, 0] rfl ?_) | (refine E.AW.nil [1, 1] rfl ?_) | (refine E.AW.nil [2, 2] rfl ?_) | (refine E.AW.nil [3, 3] rfl ?_) | (refine E.AW.nil [4, 4] rfl ?_) | (refine E.AW.nil [5, 5] rfl ?_) | (refine E.AW.nil [6, 6] rfl ?_) | (refine E.AW.nil [0, 0] rfl ?_) | (refine E.AW.nil [0, 0] rfl ?_))
    all_goals (refine E.AW.first 7 rfl (by kernel_rfl) (by kernel_rfl) (by kernel_rfl) rfl rfl rfl (E.PV.assign rfl rfl) ?_)
    all_goals (refine E.AW.first 8 rfl (by kernel_rfl) (by kernel_rfl) (by kernel_rfl) rfl rfl rfl (E.PV.assign rfl rfl) ?_)
    all_goals (refine E.AW.done (by kernel_rfl) ?_)
    all_goals (
      skip
      refine E.then_nf ?_
      first | (refine ⟨[(9, _), (10, _)], [0, 0, 0, 0], _, ?_, rfl, _, _, rfl, rfl, trivial⟩; focus (repeat (first | exact E.cov_nil | refine ⟨rfl, ?_⟩)); done) | (refine ⟨[(9, _), (10, _)], [1, 0, 0, 0], _, ?_, rfl, _, _, rfl, rfl, trivial⟩; focus (repeat (first | exact E.cov_nil | refine ⟨rfl, ?_⟩)); done))
  · rintro _ _ ⟨As, Ah, rfl, rfl, hI⟩
    refine E.CW.seq ?_
    refine E.CW.seq ?_
    refine E.CW.region ?_
    refine E.OW.pure rfl rfl rfl (E.PV.assign rfl rfl) ?_
    refine E.OW.nil ?_
    refine E.then_n ?_
    refine E.CW.block ?_
    refine E.CW.loopk [1, 3, 4, 6, 10] 1 rfl rfl (fun mm mods Hm => ∃ m : Nat, ∃ A : Option Addr, mm = 1025 - m ∧ mods = [(11, .int .i64 m), (9, .slice A g.l.length g.l.length)] ∧ Hm = [E.HP.row 4 1 A g.l.length g.l.length (E.bls g.l.length ((Bf.R (Rt.G g.q t a b) (Rt.ph g.q tick) a.toNat m)))] ∧ (m ≤ 1025 ∧ ∀ j, j < m → Bf.R (Rt.G g.q t a b) (Rt.ph g.q tick) a.toNat j b.toNat = false)) (1025) ?_ ?_
    · exact ⟨[(11, _), (9, _)], (by repeat (first | exact E.cov_nil | refine ⟨rfl, ?_⟩)), 0, _, rfl, rfl, rfl, by omega, fun j hj => by omega⟩
    · rintro _ _ _ ⟨m, A, rfl, rfl, rfl, hm, hI⟩
      refine E.CW.seq ?_
      refine E.CW.seq ?_
      refine E.CW.region ?_
      refine E.OW.pure rfl rfl rfl (E.PV.move rfl rfl) ?_
      refine E.OW.pure rfl rfl rfl (E.PV.leq rfl rfl rfl) ?_
      refine E.OW.nil ?_
      refine E.then_n ?_
      refine E.CW.cond rfl (fun hc => ?_) (fun hc => ?_)
      · simp only [E.b0, E.b1, E.b2, E.b3, E.b4, E.b5, E.b6, E.b7, E.b8, E.b9, E.b10, E.b11, E.b12, E.b13, E.b14, E.b15, E.b16, E.b17, E.b18, E.b19, E.b20, reduceCtorEq] at hc
        all_goals (
          refine E.CW.skip ?_
          refine E.then_n ?_
          refine E.CW.seq ?_
          refine E.CW.block ?_
          refine E.CW.seq ?_
          refine E.CW.seq ?_
          refine E.CW.region ?_
          refine E.OW.pure rfl rfl rfl (E.PV.move rfl rfl) ?_
          refine E.OW.pure rfl rfl rfl (E.PV.fieldAddr fa30_1 rfl rfl) ?_
          refine E.OW.pure rfl rfl rfl (E.PV.load (i := 2) na3 rfl rfl rfl rfl) ?_
          refine E.OW.pure rfl rfl rfl (E.PV.indexAddr1 (E.rdr (i := 0) rfl) Try.underlying89 in4 rfl rfl rfl (E.tn ?_) ?_ ?_) ?_; (focus (omega)); (focus (first | (simp; done) | (simp; omega))); (focus (omega))
          refine E.OW.pure rfl rfl rfl (E.PV.load_bl (E.rdr (i := 0) rfl) na4 rfl rfl ?_) ?_; (focus (omega))
          refine E.OW.nil ?_
          refine E.then_n ?_
          refine E.CW.cond rfl (fun hc => ?_) (fun hc => ?_)
          · skip
            all_goals (
              refine E.CW.seq ?_
              refine E.CW.region ?_
              refine E.OW.pure rfl rfl rfl (E.PV.move rfl rfl) ?_
              refine E.OW.pure rfl rfl rfl (E.PV.assign rfl rfl) ?_
              refine E.OW.nil ?_
              refine E.then_n ?_
              refine E.CW.ret ?_
              refine E.then_ret ?_
              refine E.blk_ret ?_
              refine E.then_ret ?_
              refine E.then_ret ?_
              refine E.blk_ret ?_
              refine E.then_ret ?_
              refine E.KR.one [] Try.results65 rfl rfl ?_
              exact ⟨by rw [Rt.arr_found hL hI (by assumption)], rfl⟩)
          · skip
            all_goals (
              refine E.CW.skip ?_
              refine E.then_n ?_
              refine E.CW.region ?_
              refine E.OW.pure rfl rfl rfl (E.PV.loads (i := 3) is28 rfl rfl rfl rfl) ?_
              refine E.OW.pure rfl rfl rfl (E.PV.move rfl rfl) ?_
              refine E.OW.pure rfl rfl rfl (E.PV.move rfl rfl) ?_
              refine E.OW.pure rfl rfl rfl (E.PV.move rfl rfl) ?_
              refine E.OW.pure rfl rfl rfl (E.PV.move rfl rfl) ?_
              refine E.OW.pure rfl rfl rfl (E.PV.move rfl rfl) ?_
              refine E.OW.pure rfl rfl rfl (E.PV.conv_in Try.underlying3 Try.underlying26 rfl rfl ?_) ?_; (focus (first | exact E.wrap_u8 _ | (simp only [IntKind.wrap_i64, IntKind.wrap_u64, IntKind.wrap_u8]; omega)))
              refine E.OW.pure rfl rfl rfl (E.PV.add_u64 rfl rfl rfl ?_) ?_; (focus (omega))
              refine E.OW.pure rfl rfl rfl (E.PV.add_u64 rfl rfl rfl ?_) ?_; (focus (omega))
              (refine E.OW.call nm72 rfl rfl rfl rfl rfl rfl _ (fun w hw => rLt_ok g t a b (tick + (m : Int) + 1) _ _ (Rt.ph g.q tick) a.toNat m w ?_ ?_ (by omega) hTn ?_ ?_ (Rt.ph_step hc0 tick m (by omega))) ?_; (focus (refine hw.rdC ?_; assumption)); (focus (assumption)); (focus (exact hw.rdrow (i := 1) rfl)); (focus (exact hw.rdrow (i := 0) rfl)); rintro _ _ ⟨ALt, rfl, rfl⟩)
              refine E.OW.pure rfl rfl rfl (E.PV.assign rfl rfl) ?_
              refine E.OW.nil ?_
              refine E.blk_n ?_
              refine E.then_n ?_
              refine E.CW.region ?_
              refine E.OW.pure rfl rfl rfl (E.PV.move rfl rfl) ?_
              refine E.OW.pure rfl rfl rfl (E.PV.add_i64 rfl rfl rfl ?_) ?_; (focus (omega))
              refine E.OW.pure rfl rfl rfl (E.PV.assign rfl rfl) ?_
              refine E.OW.nil ?_
              refine E.then_nf ?_
              refine ⟨_, [(11, _), (9, _)], [0, 1, 1, 1], [_], ?_, by repeat (first | exact E.cov_nil | refine ⟨rfl, ?_⟩), rfl, m + 1, _, rfl, rfl, rfl, by omega, Rt.rng_all hI (by assumption)⟩
              omega))
      · simp only [E.b0, E.b1, E.b2, E.b3, E.b4, E.b5, E.b6, E.b7, E.b8, E.b9, E.b10, E.b11, E.b12, E.b13, E.b14, E.b15, E.b16, E.b17, E.b18, E.b19, E.b20, reduceCtorEq] at hc
        all_goals (
          refine E.CW.exit ?_
          refine E.then_x ?_
          refine E.then_x ?_
          refine E.blk_eq ?_
          refine E.then_n ?_
          refine E.CW.seq ?_
          refine E.CW.region ?_
          refine E.OW.pure rfl rfl rfl (E.PV.assign rfl rfl) ?_
          refine E.OW.nil ?_
          refine E.then_n ?_
          refine E.CW.ret ?_
          refine E.KR.one [] Try.results65 rfl rfl ?_
          exact ⟨by rw [Rt.arr_none hL (fun j hj => hI j (by omega))], rfl⟩)
end Go.Proofs.Ytflkbabhbnmajaa

/- Closed facts on the program (printed by gen.py). -/
namespace Go.Proofs.Ytflkbabhbnmajaa
open Go Go.RowKit
set_option linter.unusedSimpArgs false
set_option linter.unusedVariables false
theorem nm65 : E.Nm Try.prog 65 := ⟨Try.f65, Try.func65, rfl, by kernel_rfl⟩
end Go.Proofs.Ytflkbabhbnmajaa

/- Walks (printed by gen.py). -/
namespace Go.Proofs.Ytflkbabhbnmajaa
open Go Go.RowKit
set_option linter.unusedSimpArgs false
set_option linter.unusedVariables false

set_option maxRecDepth 100000 in
theorem rRe_ok (g : E.Cfg) (t a b tick n : Int) (w0 : World) (hg : g.rd w0 (E.Old w0)) (hgf : g.q.fit) (ht : 0 ≤ tick ∧ tick < 18446744073709551616) :
    Calls Try.prog 29 #[g.v, .int .i64 t, .agg #[.int .i64 a, .int .i64 b], .int .u64 tick, .int .i64 n] w0 (E.Post w0 (E.Old w0) fun v Hn => ∃ A2 c2, v = .tuple #[.slice A2 ((Rt.reachR g.q t a b tick n).1).length c2, .int .i64 (Rt.reachR g.q t a b tick n).2] ∧ Hn = [E.HP.row 3 1 A2 ((Rt.reachR g.q t a b tick n).1).length c2 (E.ints ((Rt.reachR g.q t a b tick n).1))]) := by
  obtain ⟨hX1, hX2, hX3, hX4⟩ := id hg
  have hgl := E.Cfg.fit_len hgf
  refine E.calls_of (vs := [g.v, .int .i64 t, .agg #[.int .i64 a, .int .i64 b], .int .u64 tick, .int .i64 n]) (H := []) Try.func29 Try.ntmps29 rfl rfl (E.HA.start w0) ?_
  refine E.CW.seq ?_
  refine E.CW.region ?_
  refine E.OW.box rfl rfl rfl rfl rfl rfl (fun B1 => ?_)
  refine E.OW.box rfl rfl rfl rfl rfl rfl (fun B2 => ?_)
  refine E.OW.pure rfl rfl rfl (E.PV.assign rfl rfl) ?_
  refine E.OW.pure rfl rfl rfl (E.PV.assign rfl rfl) ?_
  refine E.OW.nil ?_
  refine E.then_n ?_
  refine E.CW.seq ?_
  refine E.CW.seq ?_
  refine E.CW.region ?_
  refine E.OW.pure rfl rfl rfl (E.PV.loads (i := 1) is28 rfl rfl rfl rfl) ?_
  refine E.OW.pure rfl rfl rfl (E.PV.move rfl rfl) ?_
  refine E.OW.pure rfl rfl rfl (E.PV.loads (i := 0) is30 rfl rfl rfl rfl) ?_
  refine E.OW.pure rfl rfl rfl (E.PV.move rfl rfl) ?_
  (refine E.OW.call nm61 rfl rfl rfl rfl rfl rfl _ (fun w hw => rLe_ok g t a b tick w ?_ ?_ ?_) ?_; (focus (refine hw.rdC ?_; assumption)); (focus (assumption)); (focus (assumption)); rintro _ _ ⟨rfl, rfl⟩)
  refine E.OW.pure rfl rfl rfl (E.PV.assign rfl rfl) ?_
  refine E.OW.nil ?_
  refine E.then_n ?_
  refine E.CW.seq ?_
  refine E.CW.region ?_
  refine E.OW.pure rfl rfl rfl (E.PV.move rfl rfl) ?_
  refine E.OW.pure rfl rfl rfl (E.PV.neq rfl rfl rfl) ?_
  refine E.OW.nil ?_
  refine E.then_n ?_
  refine E.CW.cond rfl (fun hc => ?_) (fun hc => ?_)
  · simp only [E.b0, E.b1, E.b2, E.b3, E.b4, E.b5, E.b6, E.b7, E.b8, E.b9, E.b10, E.b11, E.b12, E.b13, E.b14, E.b15, E.b16, E.b17, E.b18, E.b19, E.b20, reduceCtorEq] at hc
    all_goals (
      refine E.CW.seq ?_
      refine E.CW.nilrow 3 1 ?_
      refine E.CW.region ?_
      refine E.OW.pure rfl rfl rfl (E.PV.move rfl rfl) ?_
      refine E.OW.pure rfl rfl rfl (E.PV.assign rfl rfl) ?_
      refine E.OW.pure rfl rfl rfl (E.PV.assign rfl rfl) ?_
      refine E.OW.nil ?_
      refine E.then_n ?_
      refine E.CW.ret ?_
      refine E.then_ret ?_
      refine E.KR.two [0] Try.results29 rfl rfl rfl ?_
      rw [show Rt.reachR g.q t a b tick n = ([], Rt.legE g.q t a b tick) from if_neg (by assumption)]
      exact ⟨none, 0, rfl, rfl⟩)
  · simp only [E.b0, E.b1, E.b2, E.b3, E.b4, E.b5, E.b6, E.b7, E.b8, E.b9, E.b10, E.b11, E.b12, E.b13, E.b14, E.b15, E.b16, E.b17, E.b18, E.b19, E.b20, reduceCtorEq] at hc
    all_goals (
      refine E.CW.skip ?_
      refine E.then_n ?_
      refine E.CW.seq ?_
      refine E.CW.seq ?_
      refine E.CW.region ?_
      refine E.OW.pure rfl rfl rfl (E.PV.move rfl rfl) ?_
      refine E.OW.pure rfl rfl rfl (E.PV.lss rfl rfl rfl) ?_
      refine E.OW.pure rfl rfl rfl (E.PV.move rfl rfl) ?_
      all_goals (refine E.OW.split 28 rfl (fun hc => ?_) (fun hc => ?_) <;> (try simp only [E.b0, E.b1, E.b2, E.b3, E.b4, E.b5, E.b6, E.b7, E.b8, E.b9, E.b10, E.b11, E.b12, E.b13, E.b14, E.b15, E.b16, E.b17, E.b18, E.b19, E.b20, reduceCtorEq] at hc) <;> (try (exfalso; first | assumption | contradiction | omega)))
      all_goals (first | (refine E.OW.off rfl rfl rfl ?_) | (refine E.OW.pure rfl rfl rfl (E.PV.move rfl rfl) ?_))
      all_goals (first | (refine E.OW.off rfl rfl rfl ?_) | (refine E.OW.pure rfl rfl rfl (E.PV.gtr rfl rfl rfl) ?_))
      all_goals (first | (refine E.OW.pure rfl rfl rfl (E.PV.pick_t rfl rfl rfl) ?_) | (refine E.OW.pure rfl rfl rfl (E.PV.pick_f rfl rfl rfl) ?_))
      all_goals (
        refine E.OW.nil ?_
        refine E.then_n ?_
        refine E.CW.cond rfl (fun hc => ?_) (fun hc => ?_)
        · simp only [E.b0, E.b1, E.b2, E.b3, E.b4, E.b5, E.b6, E.b7, E.b8, E.b9, E.b10, E.b11, E.b12, E.b13, E.b14, E.b15, E.b16, E.b17, E.b18, E.b19, E.b20, reduceCtorEq] at hc
          all_goals (
            refine E.CW.seq ?_
            refine E.CW.nilrow 3 1 ?_
            refine E.CW.region ?_
            refine E.OW.pure rfl rfl rfl (E.PV.assign rfl rfl) ?_
            refine E.OW.pure rfl rfl rfl (E.PV.assign rfl rfl) ?_
            refine E.OW.nil ?_
            refine E.then_n ?_
            refine E.CW.ret ?_
            refine E.then_ret ?_
            refine E.KR.two [0] Try.results29 rfl rfl rfl ?_
            rw [show Rt.reachR g.q t a b tick n = ([], 2) from (if_pos (by assumption)).trans (if_neg (by omega))]
            exact ⟨none, 0, rfl, rfl⟩)
        · first | ((cases hc; done)) | (simp only [E.b0, E.b1, E.b2, E.b3, E.b4, E.b5, E.b6, E.b7, E.b8, E.b9, E.b10, E.b11, E.b12, E.b13, E.b14, E.b15, E.b16, E.b17, E.b18, E.b19, E.b20, reduceCtorEq] at hc)
          all_goals (
            refine E.CW.skip ?_
            refine E.then_n ?_
            refine E.CW.cut [1, 3, 4, 5] 0 rfl rfl (fun mods Hm => ∃ As : Option Addr, ∃ Ah : Option Addr, mods = [(13, .slice As g.l.length g.l.length), (14, .slice Ah g.l.length g.l.length)] ∧ Hm = [E.HP.row 4 1 As g.l.length g.l.length (E.bls g.l.length (fun q => decide (q = a.toNat))), E.HP.row 4 1 Ah g.l.length g.l.length (E.bls g.l.length ((Rt.G g.q t a b).cell))] ∧ True) ?_ ?_
            · skip
              obtain ⟨hL, hlk⟩ := Rt.leg_of (show Rt.legE g.q t a b tick = 0 by assumption)
              have hc0 := hL.c
              have hTn : Rt.Ten g.q t := ⟨hL.c, hL.p⟩
              have hra : 0 ≤ a ∧ a < (g.l.length : Int) := hL.ra
              have hrb : 0 ≤ b ∧ b < (g.l.length : Int) := hL.rb
              skip
              have hn64 : g.l.length ≤ 64 := Rt.len_le hc0
              have hs16 : 1 ≤ g.s.length ∧ g.s.length ≤ 16 := Rt.per_of hc0
              refine E.CW.drawx mixed [0, 0] rfl ?_
              all_goals (refine E.AW.first 0 rfl (by kernel_rfl) (by kernel_rfl) (by kernel_rfl) rfl rfl rfl (E.PV.loads (i := 1) is28 rfl rfl rfl rfl) ?_)
              all_goals (refine E.AW.first 1 rfl (by kernel_rfl) (by kernel_rfl) (by kernel_rfl) rfl rfl rfl (E.PV.loads (i := 0) is30 rfl rfl rfl rfl) ?_)
              all_goals (refine E.AW.first 3 rfl (by kernel_rfl) (by kernel_rfl) (by kernel_rfl) rfl rfl rfl (E.PV.loads (i := 1) is28 rfl rfl rfl rfl) ?_)
              all_goals (refine E.AW.first 4 rfl (by kernel_rfl) (by kernel_rfl) (by kernel_rfl) rfl rfl rfl (E.PV.move rfl rfl) ?_)
              all_goals (refine E.AW.first 5 rfl (by kernel_rfl) (by kernel_rfl) (by kernel_rfl) rfl rfl rfl (E.PV.loads (i := 0) is30 rfl rfl rfl rfl) ?_)
              all_goals (refine E.AW.one 2 (by kernel_rfl) rfl ?_)
              all_goals ((refine E.OW.call nm70 rfl rfl rfl rfl rfl rfl _ (fun w hw => rFi_ok g a b w ?_ ?_ hc0 hra) ?_; (focus (refine hw.rdC ?_; assumption)); (focus (assumption)); rintro _ _ ⟨AFi, rfl, rfl⟩))
              all_goals (first | (refine E.AW.nil [0, 0] rfl ?_) | (refine E.AW.nil [1, 1] rfl ?_) | (refine E.AW.nil [2, 2] rfl ?_) | (refine E.AW.nil [3, 3] rfl ?_) | (refine E.AW.nil [4, 4] rfl ?_) | (refine E.AW.nil [5, 5] rfl ?_) | (refine E.AW.nil [6, 6] rfl ?_) | (refine E.AW.nil [0, 0] rfl ?_) | (refine E.AW.nil [0, 0] rfl ?_))
              all_goals (refine E.AW.one 6 (by kernel_rfl) rfl ?_)
              all_goals ((refine E.OW.call nm71 rfl rfl rfl rfl rfl rfl _ (fun w hw => rCs_ok g t a b w ?_ ?_ hTn) ?_; (focus (refine hw.rdC ?_; assumption)); (focus (assumption)); rintro _ _ ⟨ACs, rfl, rfl⟩))
              all_goals (first | (refine E.AW.nil [0, 0] rfl ?_) | (refine E.AW.nil [1, 1] rfl ?_) | (refine E.AW.nil [2, 2] rfl ?_) | (refine E.AW.nil [3, 3] rfl ?_) | (refine E.AW.nil [4, 4] rfl ?_) | (refine E.AW.nil [5, 5] rfl ?_) | (refine E.AW.nil [6, 6] rfl ?_) | (refine E.AW.nil [0, 0] rfl ?_) | (refine E.AW.nil [0, 0] rfl ?_))
              all_goals (refine E.AW.first 7 rfl (by kernel_rfl) (by kernel_rfl) (by kernel_rfl) rfl rfl rfl (E.PV.assign rfl rfl) ?_)
              all_goals (refine E.AW.first 8 rfl (by kernel_rfl) (by kernel_rfl) (by kernel_rfl) rfl rfl rfl (E.PV.assign rfl rfl) ?_)
              all_goals (refine E.AW.done (by kernel_rfl) ?_)
              all_goals (
                skip
                refine E.then_nf ?_
                first | (refine ⟨[(13, _), (14, _)], [0, 0, 0, 0], _, ?_, rfl, _, _, rfl, rfl, trivial⟩; focus (repeat (first | exact E.cov_nil | refine ⟨rfl, ?_⟩)); done) | (refine ⟨[(13, _), (14, _)], [1, 0, 0, 0], _, ?_, rfl, _, _, rfl, rfl, trivial⟩; focus (repeat (first | exact E.cov_nil | refine ⟨rfl, ?_⟩)); done))
            · rintro _ _ ⟨As, Ah, rfl, rfl, hI⟩
              refine E.CW.seq ?_
              refine E.CW.seq ?_
              obtain ⟨hL, hlk⟩ := Rt.leg_of (show Rt.legE g.q t a b tick = 0 by assumption)
              have hc0 := hL.c
              have hTn : Rt.Ten g.q t := ⟨hL.c, hL.p⟩
              have hra : 0 ≤ a ∧ a < (g.l.length : Int) := hL.ra
              have hrb : 0 ≤ b ∧ b < (g.l.length : Int) := hL.rb
              skip
              have hn64 : g.l.length ≤ 64 := Rt.len_le hc0
              have hs16 : 1 ≤ g.s.length ∧ g.s.length ≤ 16 := Rt.per_of hc0
              obtain ⟨N, rfl⟩ : ∃ N : Nat, n = (N : Int) := ⟨n.toNat, (Int.toNat_of_nonneg (by omega)).symm⟩
              refine E.CW.region ?_
              refine E.OW.pure rfl rfl rfl (E.PV.assign rfl rfl) ?_
              refine E.OW.nil ?_
              refine E.then_n ?_
              refine E.CW.block ?_
              refine E.CW.loopk [1, 3, 4, 5, 14] 1 rfl rfl (fun mm mods Hm => ∃ m : Nat, ∃ A : Option Addr, mm = N - m ∧ mods = [(15, .int .i64 ((m + 1 : Nat) : Int)), (13, .slice A g.l.length g.l.length)] ∧ Hm = [E.HP.row 4 1 A g.l.length g.l.length (E.bls g.l.length ((Bf.R (Rt.G g.q t a b) (Rt.ph g.q tick) a.toNat m)))] ∧ m ≤ N) (N) ?_ ?_
              · exact ⟨[(15, _), (13, _)], (by repeat (first | exact E.cov_nil | refine ⟨rfl, ?_⟩)), 0, _, rfl, rfl, rfl, by omega⟩
              · rintro _ _ _ ⟨m, A, rfl, rfl, rfl, hm⟩
                refine E.CW.seq ?_
                refine E.CW.seq ?_
                refine E.CW.region ?_
                refine E.OW.pure rfl rfl rfl (E.PV.move rfl rfl) ?_
                refine E.OW.pure rfl rfl rfl (E.PV.move rfl rfl) ?_
                refine E.OW.pure rfl rfl rfl (E.PV.leq rfl rfl rfl) ?_
                refine E.OW.nil ?_
                refine E.then_n ?_
                refine E.CW.cond rfl (fun hc => ?_) (fun hc => ?_)
                · simp only [E.b0, E.b1, E.b2, E.b3, E.b4, E.b5, E.b6, E.b7, E.b8, E.b9, E.b10, E.b11, E.b12, E.b13, E.b14, E.b15, E.b16, E.b17, E.b18, E.b19, E.b20, reduceCtorEq] at hc
                  all_goals (
                    refine E.CW.skip ?_
                    refine E.then_n ?_
                    refine E.CW.seq ?_
                    refine E.CW.block ?_
                    refine E.CW.region ?_
                    refine E.OW.pure rfl rfl rfl (E.PV.loads (i := 3) is28 rfl rfl rfl rfl) ?_
                    refine E.OW.pure rfl rfl rfl (E.PV.move rfl rfl) ?_
                    refine E.OW.pure rfl rfl rfl (E.PV.move rfl rfl) ?_
                    refine E.OW.pure rfl rfl rfl (E.PV.move rfl rfl) ?_
                    refine E.OW.pure rfl rfl rfl (E.PV.move rfl rfl) ?_
                    refine E.OW.pure rfl rfl rfl (E.PV.move rfl rfl) ?_
                    refine E.OW.pure rfl rfl rfl (E.PV.conv_in Try.underlying3 Try.underlying26 rfl rfl ?_) ?_; (focus (first | exact E.wrap_u8 _ | (simp only [IntKind.wrap_i64, IntKind.wrap_u64, IntKind.wrap_u8]; omega)))
                    refine E.OW.pure rfl rfl rfl (E.PV.add_u64 rfl rfl rfl ?_) ?_; (focus (omega))
                    (refine E.OW.call nm72 rfl rfl rfl rfl rfl rfl _ (fun w hw => rLt_ok g t a b (tick + ((m + 1 : Nat) : Int)) _ _ (Rt.ph g.q tick) a.toNat m w ?_ ?_ (by omega) hTn ?_ ?_ (Rt.ph_step hc0 tick m (by omega))) ?_; (focus (refine hw.rdC ?_; assumption)); (focus (assumption)); (focus (exact hw.rdrow (i := 1) rfl)); (focus (exact hw.rdrow (i := 0) rfl)); rintro _ _ ⟨ALt, rfl, rfl⟩)
                    refine E.OW.pure rfl rfl rfl (E.PV.assign rfl rfl) ?_
                    refine E.OW.nil ?_
                    refine E.blk_n ?_
                    refine E.then_n ?_
                    refine E.CW.region ?_
                    refine E.OW.pure rfl rfl rfl (E.PV.move rfl rfl) ?_
                    refine E.OW.pure rfl rfl rfl (E.PV.add_i64 rfl rfl rfl ?_) ?_; (focus (omega))
                    refine E.OW.pure rfl rfl rfl (E.PV.assign rfl rfl) ?_
                    refine E.OW.nil ?_
                    refine E.then_nf ?_
                    refine ⟨_, [(15, _), (13, _)], [0, 1, 1, 1], [_], ?_, by repeat (first | exact E.cov_nil | refine ⟨rfl, ?_⟩), rfl, m + 1, _, rfl, rfl, rfl, by omega⟩
                    omega)
                · simp only [E.b0, E.b1, E.b2, E.b3, E.b4, E.b5, E.b6, E.b7, E.b8, E.b9, E.b10, E.b11, E.b12, E.b13, E.b14, E.b15, E.b16, E.b17, E.b18, E.b19, E.b20, reduceCtorEq] at hc
                  all_goals (
                    refine E.CW.exit ?_
                    refine E.then_x ?_
                    refine E.then_x ?_
                    refine E.blk_eq ?_
                    refine E.then_n ?_
                    refine E.CW.seq ?_
                    refine E.CW.nilrow 3 1 ?_
                    refine E.CW.region ?_
                    refine E.OW.pure rfl rfl rfl (E.PV.assign rfl rfl) ?_
                    refine E.OW.nil ?_
                    refine E.then_n ?_
                    refine E.CW.seq ?_
                    refine E.CW.seq ?_
                    refine E.CW.region ?_
                    refine E.OW.pure rfl rfl rfl (E.PV.assign rfl rfl) ?_
                    refine E.OW.nil ?_
                    refine E.then_n ?_
                    refine E.CW.block ?_
                    refine E.CW.loopk [13] 1 rfl rfl (fun mm mods Hm => ∃ k : Nat, ∃ A2 : Option Addr, ∃ e : Nat, mm = g.l.length - k ∧ mods = [(17, .int .i64 k), (16, .slice A2 (Rt.pls k (Bf.R (Rt.G g.q t a b) (Rt.ph g.q tick) a.toNat m)).length e)] ∧ Hm = [E.HP.row 3 1 A2 (Rt.pls k (Bf.R (Rt.G g.q t a b) (Rt.ph g.q tick) a.toNat m)).length e (E.ints (Rt.pls k (Bf.R (Rt.G g.q t a b) (Rt.ph g.q tick) a.toNat m)))] ∧ k ≤ g.l.length) (g.l.length) ?_ ?_
                    · exact ⟨[(17, _), (16, _)], (by repeat (first | exact E.cov_nil | refine ⟨rfl, ?_⟩)), 0, none, 0, rfl, rfl, rfl, by omega⟩
                    · rintro _ _ _ ⟨k, A2, e, rfl, rfl, rfl, hk⟩
                      have hpl := Rt.pls_len k (Bf.R (Rt.G g.q t a b) (Rt.ph g.q tick) a.toNat m)
                      refine E.CW.seq ?_
                      refine E.CW.seq ?_
                      refine E.CW.region ?_
                      refine E.OW.pure rfl rfl rfl (E.PV.move rfl rfl) ?_
                      refine E.OW.pure rfl rfl rfl (E.PV.move rfl rfl) ?_
                      refine E.OW.pure rfl rfl rfl (E.PV.len Try.underlying89 rfl rfl) ?_
                      refine E.OW.pure rfl rfl rfl (E.PV.lss rfl rfl rfl) ?_
                      refine E.OW.nil ?_
                      refine E.then_n ?_
                      refine E.CW.cond rfl (fun hc => ?_) (fun hc => ?_)
                      · simp only [E.b0, E.b1, E.b2, E.b3, E.b4, E.b5, E.b6, E.b7, E.b8, E.b9, E.b10, E.b11, E.b12, E.b13, E.b14, E.b15, E.b16, E.b17, E.b18, E.b19, E.b20, reduceCtorEq] at hc
                        all_goals (
                          refine E.CW.skip ?_
                          refine E.then_n ?_
                          refine E.CW.seq ?_
                          refine E.CW.block ?_
                          refine E.CW.seq ?_
                          refine E.CW.region ?_
                          refine E.OW.pure rfl rfl rfl (E.PV.move rfl rfl) ?_
                          refine E.OW.pure rfl rfl rfl (E.PV.move rfl rfl) ?_
                          refine E.OW.pure rfl rfl rfl (E.PV.indexAddr1 (E.rdr (i := 1) rfl) Try.underlying89 in4 rfl rfl rfl rfl ?_ ?_) ?_; (focus (first | (simp; done) | (simp; omega))); (focus (omega))
                          refine E.OW.pure rfl rfl rfl (E.PV.load_bl (E.rdr (i := 1) rfl) na4 rfl rfl ?_) ?_; (focus (omega))
                          refine E.OW.nil ?_
                          refine E.then_n ?_
                          refine E.CW.cond rfl (fun hc => ?_) (fun hc => ?_)
                          · skip
                            all_goals (
                              refine E.CW.region ?_
                              refine E.OW.pure rfl rfl rfl (E.PV.move rfl rfl) ?_
                              refine E.OW.pure rfl rfl rfl (E.PV.move rfl rfl) ?_
                              refine E.OW.buildSlice (Et := 3) (sz := 1) (ps := [(0, .tmp 64)]) rfl rfl rfl rfl rfl (by simp) (by unfold maxLen; omega) (fun w => bsl31_1_0 _ w) (fun A3 => ?_)
                              refine E.OW.app_int1 (j := 0) (i := 0) Try.underlying31 in3 rfl rfl rfl rfl rfl rfl rfl rfl rfl rfl ?_ (fun A4 c4 => ?_); (focus ((first | omega | (simp only [List.length_append, List.length_cons, List.length_nil] at *; omega) | (unfold maxLen at *; omega))))
                              refine E.OW.pure rfl rfl rfl (E.PV.assign rfl rfl) ?_
                              refine E.OW.nil ?_
                              refine E.blk_n ?_
                              refine E.then_n ?_
                              refine E.CW.region ?_
                              refine E.OW.pure rfl rfl rfl (E.PV.move rfl rfl) ?_
                              refine E.OW.pure rfl rfl rfl (E.PV.add_i64 rfl rfl rfl ?_) ?_; (focus (omega))
                              refine E.OW.pure rfl rfl rfl (E.PV.assign rfl rfl) ?_
                              refine E.OW.nil ?_
                              refine E.then_nf ?_
                              refine ⟨_, [(17, _), (16, _)], [0, 0, 0, 0, 0], [_], ?_, by repeat (first | exact E.cov_nil | refine ⟨rfl, ?_⟩), rfl, k + 1, _, _, rfl, by rw [Rt.pls_yes (by assumption)]; rfl, by rw [Rt.pls_yes (by assumption)], by omega⟩
                              omega)
                          · skip
                            all_goals (
                              refine E.CW.skip ?_
                              refine E.blk_n ?_
                              refine E.then_n ?_
                              refine E.CW.region ?_
                              refine E.OW.pure rfl rfl rfl (E.PV.move rfl rfl) ?_
                              refine E.OW.pure rfl rfl rfl (E.PV.add_i64 rfl rfl rfl ?_) ?_; (focus (omega))
                              refine E.OW.pure rfl rfl rfl (E.PV.assign rfl rfl) ?_
                              refine E.OW.nil ?_
                              refine E.then_nf ?_
                              refine ⟨_, [(17, _), (16, _)], [0, 0, 0, 0, 0], [_], ?_, by repeat (first | exact E.cov_nil | refine ⟨rfl, ?_⟩), rfl, k + 1, A2, e, rfl, by rw [Rt.pls_no (by assumption)]; rfl, by rw [Rt.pls_no (by assumption)], by omega⟩
                              omega))
                      · simp only [E.b0, E.b1, E.b2, E.b3, E.b4, E.b5, E.b6, E.b7, E.b8, E.b9, E.b10, E.b11, E.b12, E.b13, E.b14, E.b15, E.b16, E.b17, E.b18, E.b19, E.b20, reduceCtorEq] at hc
                        all_goals (
                          refine E.CW.exit ?_
                          refine E.then_x ?_
                          refine E.then_x ?_
                          refine E.blk_eq ?_
                          refine E.then_n ?_
                          refine E.CW.seq ?_
                          refine E.CW.region ?_
                          refine E.OW.pure rfl rfl rfl (E.PV.move rfl rfl) ?_
                          refine E.OW.pure rfl rfl rfl (E.PV.assign rfl rfl) ?_
                          refine E.OW.pure rfl rfl rfl (E.PV.assign rfl rfl) ?_
                          refine E.OW.nil ?_
                          refine E.then_n ?_
                          refine E.CW.ret ?_
                          refine E.KR.two [0] Try.results29 rfl rfl rfl ?_
                          obtain rfl : m = N := by omega
                          obtain rfl : k = g.l.length := by omega
                          rw [show Rt.reachR g.q t a b tick (m : Int) = (Rt.pls g.l.length (Bf.R (Rt.G g.q t a b) (Rt.ph g.q tick) a.toNat m), 0) from (if_pos (by assumption)).trans (if_pos ⟨by omega, by omega⟩)]
                          exact ⟨_, _, rfl, rfl⟩)))))

set_option maxRecDepth 100000 in
theorem rTb_ok (g : E.Cfg) (t a b : Int) (w0 : World) (hg : g.rd w0 (E.Old w0)) (hgf : g.q.fit) :
    Calls Try.prog 24 #[g.v, .int .i64 t, .agg #[.int .i64 a, .int .i64 b]] w0 (E.Post w0 (E.Old w0) fun v Hn => ∃ A2 c2, v = .tuple #[.slice A2 ((Rt.tableR g.q t a b).1).length c2, .int .i64 (Rt.tableR g.q t a b).2] ∧ Hn = [E.HP.row 3 1 A2 ((Rt.tableR g.q t a b).1).length c2 (E.ints ((Rt.tableR g.q t a b).1))]) := by
  obtain ⟨hX1, hX2, hX3, hX4⟩ := id hg
  have hgl := E.Cfg.fit_len hgf
  refine E.calls_of (vs := [g.v, .int .i64 t, .agg #[.int .i64 a, .int .i64 b]]) (H := []) Try.func24 Try.ntmps24 rfl rfl (E.HA.start w0) ?_
  refine E.CW.seq ?_
  refine E.CW.region ?_
  refine E.OW.box rfl rfl rfl rfl rfl rfl (fun B1 => ?_)
  refine E.OW.box rfl rfl rfl rfl rfl rfl (fun B2 => ?_)
  refine E.OW.pure rfl rfl rfl (E.PV.assign rfl rfl) ?_
  refine E.OW.pure rfl rfl rfl (E.PV.assign rfl rfl) ?_
  refine E.OW.nil ?_
  refine E.then_n ?_
  refine E.CW.seq ?_
  refine E.CW.seq ?_
  refine E.CW.region ?_
  refine E.OW.pure rfl rfl rfl (E.PV.loads (i := 1) is28 rfl rfl rfl rfl) ?_
  refine E.OW.pure rfl rfl rfl (E.PV.move rfl rfl) ?_
  refine E.OW.pure rfl rfl rfl (E.PV.loads (i := 0) is30 rfl rfl rfl rfl) ?_
  (refine E.OW.call nm61 rfl rfl rfl rfl rfl rfl _ (fun w hw => rLe_ok g t a b 0 w ?_ ?_ ?_) ?_; (focus (refine hw.rdC ?_; assumption)); (focus (assumption)); (focus (omega)); rintro _ _ ⟨rfl, rfl⟩)
  refine E.OW.pure rfl rfl rfl (E.PV.assign rfl rfl) ?_
  refine E.OW.nil ?_
  refine E.then_n ?_
  refine E.CW.seq ?_
  refine E.CW.region ?_
  refine E.OW.pure rfl rfl rfl (E.PV.move rfl rfl) ?_
  refine E.OW.pure rfl rfl rfl (E.PV.neq rfl rfl rfl) ?_
  refine E.OW.nil ?_
  refine E.then_n ?_
  refine E.CW.cond rfl (fun hc => ?_) (fun hc => ?_)
  · simp only [E.b0, E.b1, E.b2, E.b3, E.b4, E.b5, E.b6, E.b7, E.b8, E.b9, E.b10, E.b11, E.b12, E.b13, E.b14, E.b15, E.b16, E.b17, E.b18, E.b19, E.b20, reduceCtorEq] at hc
    all_goals (
      refine E.CW.seq ?_
      refine E.CW.nilrow 3 1 ?_
      refine E.CW.region ?_
      refine E.OW.pure rfl rfl rfl (E.PV.move rfl rfl) ?_
      refine E.OW.pure rfl rfl rfl (E.PV.assign rfl rfl) ?_
      refine E.OW.pure rfl rfl rfl (E.PV.assign rfl rfl) ?_
      refine E.OW.nil ?_
      refine E.then_n ?_
      refine E.CW.ret ?_
      refine E.then_ret ?_
      refine E.KR.two [0] Try.results24 rfl rfl rfl ?_
      rw [show Rt.tableR g.q t a b = ([], Rt.legE g.q t a b 0) from if_neg (by assumption)]
      exact ⟨none, 0, rfl, rfl⟩)
  · simp only [E.b0, E.b1, E.b2, E.b3, E.b4, E.b5, E.b6, E.b7, E.b8, E.b9, E.b10, E.b11, E.b12, E.b13, E.b14, E.b15, E.b16, E.b17, E.b18, E.b19, E.b20, reduceCtorEq] at hc
    all_goals (
      refine E.CW.skip ?_
      refine E.then_n ?_
      refine E.CW.seq ?_
      refine E.CW.region ?_
      refine E.OW.pure rfl rfl rfl (E.PV.assign rfl rfl) ?_
      refine E.OW.nil ?_
      refine E.then_n ?_
      refine E.CW.seq ?_
      refine E.CW.seq ?_
      obtain ⟨hL, hlk⟩ := Rt.leg_of (show Rt.legE g.q t a b 0 = 0 by assumption)
      have hc0 := hL.c
      have hTn : Rt.Ten g.q t := ⟨hL.c, hL.p⟩
      have hra : 0 ≤ a ∧ a < (g.l.length : Int) := hL.ra
      have hrb : 0 ≤ b ∧ b < (g.l.length : Int) := hL.rb
      skip
      have hn64 : g.l.length ≤ 64 := Rt.len_le hc0
      have hs16 : 1 ≤ g.s.length ∧ g.s.length ≤ 16 := Rt.per_of hc0
      refine E.CW.nilrow 3 1 ?_
      refine E.CW.region ?_
      refine E.OW.pure rfl rfl rfl (E.PV.assign rfl rfl) ?_
      refine E.OW.nil ?_
      refine E.then_n ?_
      refine E.CW.block ?_
      refine E.CW.loopk [1, 3, 5] 1 rfl rfl (fun mm mods Hm => ∃ k : Nat, ∃ A : Option Addr, ∃ e : Nat, mm = g.s.length - k ∧ mods = [(10, .int .i64 k), (9, .slice A (Rt.tbl (Bf.arr (Rt.G g.q t a b)) a.toNat k).length e)] ∧ Hm = [E.HP.row 3 1 A (Rt.tbl (Bf.arr (Rt.G g.q t a b)) a.toNat k).length e (E.ints (Rt.tbl (Bf.arr (Rt.G g.q t a b)) a.toNat k))] ∧ k ≤ g.s.length) (g.s.length) ?_ ?_
      · exact ⟨[(10, _), (9, _)], (by repeat (first | exact E.cov_nil | refine ⟨rfl, ?_⟩)), 0, none, 0, rfl, rfl, rfl, by omega⟩
      · rintro _ _ _ ⟨k, A, e, rfl, rfl, rfl, hk⟩
        have hpl := Rt.tbl_len (Bf.arr (Rt.G g.q t a b)) a.toNat k
        refine E.CW.seq ?_
        refine E.CW.seq ?_
        refine E.CW.region ?_
        refine E.OW.pure rfl rfl rfl (E.PV.move rfl rfl) ?_
        refine E.OW.pure rfl rfl rfl (E.PV.fieldAddr fa28_1 rfl rfl) ?_
        refine E.OW.pure rfl rfl rfl (E.PV.load (i := 2) na22 rfl rfl rfl rfl) ?_
        refine E.OW.pure rfl rfl rfl (E.PV.len Try.underlying22 rfl rfl) ?_
        refine E.OW.pure rfl rfl rfl (E.PV.lss rfl rfl rfl) ?_
        refine E.OW.nil ?_
        refine E.then_n ?_
        refine E.CW.cond rfl (fun hc => ?_) (fun hc => ?_)
        · simp only [E.b0, E.b1, E.b2, E.b3, E.b4, E.b5, E.b6, E.b7, E.b8, E.b9, E.b10, E.b11, E.b12, E.b13, E.b14, E.b15, E.b16, E.b17, E.b18, E.b19, E.b20, reduceCtorEq] at hc
          all_goals (
            refine E.CW.skip ?_
            refine E.then_n ?_
            refine E.CW.seq ?_
            refine E.CW.block ?_
            refine E.CW.region ?_
            refine E.OW.pure rfl rfl rfl (E.PV.move rfl rfl) ?_
            refine E.OW.pure rfl rfl rfl (E.PV.loads (i := 2) is28 rfl rfl rfl rfl) ?_
            refine E.OW.pure rfl rfl rfl (E.PV.move rfl rfl) ?_
            refine E.OW.pure rfl rfl rfl (E.PV.loads (i := 1) is30 rfl rfl rfl rfl) ?_
            refine E.OW.pure rfl rfl rfl (E.PV.move rfl rfl) ?_
            refine E.OW.pure rfl rfl rfl (E.PV.conv_in Try.underlying3 Try.underlying26 rfl rfl ?_) ?_; (focus (first | exact E.wrap_u8 _ | (simp only [IntKind.wrap_i64, IntKind.wrap_u64, IntKind.wrap_u8]; omega)))
            (refine E.OW.call nm65 rfl rfl rfl rfl rfl rfl _ (fun w hw => rAr_ok g t a b k w ?_ ?_ (by omega) hL) ?_; (focus (refine hw.rdC ?_; assumption)); (focus (assumption)); rintro _ _ ⟨rfl, rfl⟩)
            refine E.OW.buildSlice (Et := 3) (sz := 1) (ps := [(0, .tmp 31)]) rfl rfl rfl rfl rfl (by simp) (by unfold maxLen; omega) (fun w => bsl31_1_0 _ w) (fun A3 => ?_)
            refine E.OW.app_int1 (j := 0) (i := 0) Try.underlying31 in3 rfl rfl rfl rfl rfl rfl rfl rfl rfl rfl ?_ (fun A4 c4 => ?_); (focus ((first | omega | (simp only [List.length_append, List.length_cons, List.length_nil] at *; omega) | (unfold maxLen at *; omega))))
            refine E.OW.pure rfl rfl rfl (E.PV.assign rfl rfl) ?_
            refine E.OW.nil ?_
            refine E.blk_n ?_
            refine E.then_n ?_
            refine E.CW.region ?_
            refine E.OW.pure rfl rfl rfl (E.PV.move rfl rfl) ?_
            refine E.OW.pure rfl rfl rfl (E.PV.add_i64 rfl rfl rfl ?_) ?_; (focus (omega))
            refine E.OW.pure rfl rfl rfl (E.PV.assign rfl rfl) ?_
            refine E.OW.nil ?_
            refine E.then_nf ?_
            refine ⟨_, [(10, _), (9, _)], [0, 0, 0], [_], ?_, by repeat (first | exact E.cov_nil | refine ⟨rfl, ?_⟩), rfl, k + 1, _, _, rfl, by rw [Rt.tbl_succ, ← Rt.tick_k (g := g.q) (show k < g.q.s.length by show k < g.s.length; omega)]; rfl, by rw [Rt.tbl_succ, ← Rt.tick_k (g := g.q) (show k < g.q.s.length by show k < g.s.length; omega)], by omega⟩
            omega)
        · simp only [E.b0, E.b1, E.b2, E.b3, E.b4, E.b5, E.b6, E.b7, E.b8, E.b9, E.b10, E.b11, E.b12, E.b13, E.b14, E.b15, E.b16, E.b17, E.b18, E.b19, E.b20, reduceCtorEq] at hc
          all_goals (
            refine E.CW.exit ?_
            refine E.then_x ?_
            refine E.then_x ?_
            refine E.blk_eq ?_
            refine E.then_n ?_
            refine E.CW.seq ?_
            refine E.CW.region ?_
            refine E.OW.pure rfl rfl rfl (E.PV.move rfl rfl) ?_
            refine E.OW.pure rfl rfl rfl (E.PV.assign rfl rfl) ?_
            refine E.OW.pure rfl rfl rfl (E.PV.assign rfl rfl) ?_
            refine E.OW.nil ?_
            refine E.then_n ?_
            refine E.CW.ret ?_
            refine E.KR.two [0] Try.results24 rfl rfl rfl ?_
            obtain rfl : k = g.s.length := by omega
            rw [show Rt.tableR g.q t a b = (Rt.tbl (Bf.arr (Rt.G g.q t a b)) a.toNat g.s.length, 0) from if_pos (by assumption)]
            exact ⟨_, _, rfl, rfl⟩))
end Go.Proofs.Ytflkbabhbnmajaa

/- Closed facts on the program (printed by gen.py). -/
namespace Go.Proofs.Ytflkbabhbnmajaa
open Go Go.RowKit
set_option linter.unusedSimpArgs false
set_option linter.unusedVariables false
theorem nm63 : E.Nm Try.prog 63 := ⟨Try.f63, Try.func63, rfl, by kernel_rfl⟩
end Go.Proofs.Ytflkbabhbnmajaa
