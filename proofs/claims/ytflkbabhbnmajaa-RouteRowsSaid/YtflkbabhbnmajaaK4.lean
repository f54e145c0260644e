/- Part 4 of the texts behind the laws RouteApart, RoutePeriod, RouteRest, RouteRows, RouteWaits: the logic, plain laws and walks that they need, for any input that these speak of. -/
import Derived.Laws.StructEq
import Derived.Test.YtflkbabhbnmajaaK3
/- Walks (printed by gen.py). -/
namespace Go.Proofs.Ytflkbabhbnmajaa
open Go Go.RowKit
set_option linter.unusedSimpArgs false
set_option linter.unusedVariables false

set_option maxRecDepth 100000 in
theorem ph_ok (y : E.Pl) (tick : Int) (w0 : World) (hr : y.rd0 w0 (E.Old w0)) (hK : 1 ≤ y.x.K ∧ y.x.K ≤ 16) (ht : 0 ≤ tick ∧ tick < 18446744073709551616) :
    Calls Try.prog 60 #[y.v, .int .u64 tick] w0 (E.Post w0 (E.Old w0) fun v Hn => v = .int .i64 ((Rt.phk y.x.K (tick) : Nat) : Int) ∧ Hn = []) := by
  have hm := Rt.phk_lt hK.1 tick
  have hm2 := Rt.phk_int hK.1 tick
  refine E.calls_of (vs := [y.v, .int .u64 tick]) (H := []) Try.func60 Try.ntmps60 rfl rfl (E.HA.start w0) ?_
  refine E.CW.seq ?_
  refine E.CW.region ?_
  refine E.OW.pure rfl rfl rfl (E.PV.assign rfl rfl) ?_
  refine E.OW.nil ?_
  refine E.then_n ?_
  refine E.CW.seq ?_
  refine E.CW.region ?_
  refine E.OW.pure rfl rfl rfl (E.PV.move rfl rfl) ?_
  refine E.OW.pure rfl rfl rfl (E.PV.move rfl rfl) ?_
  refine E.OW.pure rfl rfl rfl (E.PV.nilCheck rfl rfl) ?_
  refine E.OW.pure rfl rfl rfl (E.PV.fieldAddr fa93_0 rfl rfl) ?_
  refine E.OW.pure rfl rfl rfl (E.PV.load_at (E.p_b (E.sr0 hr)) na3 rfl rfl rfl) ?_
  refine E.OW.pure rfl rfl rfl (E.PV.conv_in Try.underlying3 Try.underlying26 rfl rfl ?_) ?_; (focus (first | exact E.wrap_u8 _ | (simp only [IntKind.wrap_i64, IntKind.wrap_u64, IntKind.wrap_u8]; omega)))
  refine E.OW.pure rfl rfl rfl (E.PV.rem_i64 rfl rfl rfl ?_ ?_) ?_; (focus (omega)); (focus (omega))
  refine E.OW.pure rfl rfl rfl (E.PV.conv_in Try.underlying26 Try.underlying3 rfl rfl ?_) ?_; (focus (first | exact E.wrap_u8 _ | (simp only [IntKind.wrap_i64, IntKind.wrap_u64, IntKind.wrap_u8]; omega)))
  refine E.OW.pure rfl rfl rfl (E.PV.assign rfl rfl) ?_
  refine E.OW.nil ?_
  refine E.then_n ?_
  refine E.CW.ret ?_
  refine E.KR.one [] Try.results60 rfl rfl ?_
  exact ⟨by rw [hm2], rfl⟩

set_option maxRecDepth 100000 in
theorem nx_ok (y : E.Pl) (D : Bf.DD) (p : Nat) (tick n : Int) (w0 : World) (hr : y.rd0 w0 (E.Old w0)) (hd : y.rdd w0 (E.Old w0) D) (hK : 1 ≤ y.x.K ∧ y.x.K ≤ 16) (hok : y.x.ok) (hD : ∀ k p, k < y.x.K → p < y.x.n → y.x.cell p = true → D k p = Bf.arr y.x k p) (hp : p < y.x.n) (ht : 0 ≤ tick ∧ tick < 10000000000000000000) (hn : 1 ≤ n ∧ n ≤ 2000) (hnl : (y.x.nr p).length ≤ 5) :
    Calls Try.prog 82 #[y.v, .int .i64 (p : Int), .int .u64 tick, .int .i64 n] w0 (E.Post w0 (E.Old w0) fun v Hn => v = .int .i64 ((Bf.nx y.x (Rt.phk y.x.K (tick + 1)) p n : Nat) : Int) ∧ Hn = []) := by
  have hkl := Rt.phk_lt hK.1 (tick + 1)
  refine E.calls_of (vs := [y.v, .int .i64 (p : Int), .int .u64 tick, .int .i64 n]) (H := []) Try.func82 Try.ntmps82 rfl rfl (E.HA.start w0) ?_
  refine E.CW.seq ?_
  refine E.CW.region ?_
  refine E.OW.pure rfl rfl rfl (E.PV.assign rfl rfl) ?_
  refine E.OW.nil ?_
  refine E.then_n ?_
  refine E.CW.seq ?_
  refine E.CW.region ?_
  refine E.OW.pure rfl rfl rfl (E.PV.move rfl rfl) ?_
  refine E.OW.pure rfl rfl rfl (E.PV.move rfl rfl) ?_
  refine E.OW.pure rfl rfl rfl (E.PV.add_u64 rfl rfl rfl ?_) ?_; (focus (omega))
  (refine E.OW.call nm60 rfl rfl rfl rfl rfl rfl _ (fun w hw => ph_ok y (tick + 1) w (hw.rd0 hr) hK (by omega)) ?_; rintro _ _ ⟨rfl, rfl⟩)
  refine E.OW.pure rfl rfl rfl (E.PV.assign rfl rfl) ?_
  refine E.OW.nil ?_
  refine E.then_n ?_
  refine E.CW.seq ?_
  refine E.CW.seq ?_
  refine E.CW.region ?_
  refine E.OW.pure rfl rfl rfl (E.PV.move rfl rfl) ?_
  refine E.OW.pure rfl rfl rfl (E.PV.nilCheck rfl rfl) ?_
  refine E.OW.pure rfl rfl rfl (E.PV.fieldAddr fa93_4 rfl rfl) ?_
  refine E.OW.pure rfl rfl rfl (E.PV.load_at (E.p_b (E.sr0 hr)) na91 rfl rfl rfl) ?_
  refine E.OW.pure rfl rfl rfl (E.PV.move rfl rfl) ?_
  refine E.OW.pure rfl rfl rfl (E.PV.indexAddr1 (E.p_n (E.sr0 hr)) Try.underlying91 in31 rfl rfl rfl rfl ?_ ?_) ?_; (focus (first | (simp; done) | (simp; omega))); (focus (omega))
  refine E.OW.pure rfl rfl rfl (E.PV.load_sn (E.p_n (E.sr0 hr)) na31 rfl rfl ?_) ?_; (focus (omega))
  refine E.OW.pure rfl rfl rfl (E.PV.len Try.underlying31 rfl rfl) ?_
  refine E.OW.pure rfl rfl rfl (E.PV.move rfl rfl) ?_
  refine E.OW.nil ?_
  refine E.then_n ?_
  refine E.CW.block ?_
  refine E.CW.loopk [0, 1, 3, 9, 22, 23] 0 rfl rfl (fun mm mods Hm => ∃ j : Nat, mm = (y.x.nr p).length - j ∧ mods = [(24, .int .i64 j)] ∧ Hm = [] ∧ (j ≤ (y.x.nr p).length ∧ ∀ i, i < j → (y.x.al (Rt.phk y.x.K (tick + 1)) ((y.x.nr p).getD i 0) && decide (Bf.arr y.x (Rt.phk y.x.K (tick + 1)) ((y.x.nr p).getD i 0) = n - 1)) = false)) ((y.x.nr p).length) ?_ ?_
  · exact ⟨[(24, _)], (by repeat (first | exact E.cov_nil | refine ⟨rfl, ?_⟩)), 0, rfl, rfl, rfl, by omega, fun i hi => by omega⟩
  · rintro _ _ _ ⟨j, rfl, rfl, rfl, hj, hI⟩
    refine E.CW.seq ?_
    refine E.CW.region ?_
    refine E.OW.pure rfl rfl rfl (E.PV.lss rfl rfl rfl) ?_
    refine E.OW.nil ?_
    refine E.then_n ?_
    refine E.CW.seq ?_
    refine E.CW.cond rfl (fun hc => ?_) (fun hc => ?_)
    · simp only [E.b0, E.b1, E.b2, E.b3, E.b4, E.b5, E.b6, E.b7, E.b8, E.b9, E.b10, E.b11, E.b12, E.b13, E.b14, E.b15, E.b16, E.b17, E.b18, E.b19, E.b20, reduceCtorEq] at hc
      all_goals (
        refine E.CW.skip ?_
        refine E.then_n ?_
        refine E.CW.seq ?_
        refine E.CW.block ?_
        refine E.CW.seq ?_
        have hin : ((y.x.nr p).getD j 0) ∈ y.x.nr p := Rt.getD_memN (by omega)
        have hqn := hok.nrlt _ _ hp hin
        have hDq : y.x.al (Rt.phk y.x.K (tick + 1)) ((y.x.nr p).getD j 0) = true → D (Rt.phk y.x.K (tick + 1)) ((y.x.nr p).getD j 0) = Bf.arr y.x (Rt.phk y.x.K (tick + 1)) ((y.x.nr p).getD j 0) := fun h => hD _ _ hkl hqn (hok.alc _ _ h)
        refine E.CW.region ?_
        refine E.OW.pure rfl rfl rfl (E.PV.indexAddr1 (E.p_nr (E.sr0 hr) ?_) Try.underlying31 in3 rfl rfl rfl rfl ?_ ?_) ?_; (focus (omega)); (focus (first | (simp; done) | (simp; omega))); (focus (omega))
        refine E.OW.pure rfl rfl rfl (E.PV.load_nn (E.p_nr (E.sr0 hr) ?_) na3 rfl rfl ?_) ?_; (focus (omega)); (focus (omega))
        refine E.OW.pure rfl rfl rfl (E.PV.assign rfl rfl) ?_
        refine E.OW.nil ?_
        refine E.then_n ?_
        refine E.CW.seq ?_
        refine E.CW.region ?_
        refine E.OW.pure rfl rfl rfl (E.PV.move rfl rfl) ?_
        refine E.OW.pure rfl rfl rfl (E.PV.nilCheck rfl rfl) ?_
        refine E.OW.pure rfl rfl rfl (E.PV.fieldAddr fa93_2 rfl rfl) ?_
        refine E.OW.pure rfl rfl rfl (E.PV.load_at (E.p_b (E.sr0 hr)) na90 rfl rfl rfl) ?_
        refine E.OW.pure rfl rfl rfl (E.PV.move rfl rfl) ?_
        refine E.OW.pure rfl rfl rfl (E.PV.indexAddr1 (E.p_a (E.sr0 hr)) Try.underlying90 in89 rfl rfl rfl rfl ?_ ?_) ?_; (focus (first | (simp; done) | (simp; omega))); (focus (omega))
        refine E.OW.pure rfl rfl rfl (E.PV.load_sc (E.p_a (E.sr0 hr)) na89 rfl rfl ?_) ?_; (focus (omega))
        refine E.OW.pure rfl rfl rfl (E.PV.move rfl rfl) ?_
        refine E.OW.pure rfl rfl rfl (E.PV.indexAddr1 (E.p_ar (E.sr0 hr) ?_) Try.underlying89 in4 rfl rfl rfl rfl ?_ ?_) ?_; (focus (omega)); (focus (first | (simp; done) | (simp; omega))); (focus (omega))
        refine E.OW.pure rfl rfl rfl (E.PV.load_bl (E.p_ar (E.sr0 hr) ?_) na4 rfl rfl ?_) ?_; (focus (omega)); (focus (omega))
        refine E.OW.pure rfl rfl rfl (E.PV.move rfl rfl) ?_
        all_goals (refine E.OW.split 38 rfl (fun hc => ?_) (fun hc => ?_) <;> (try simp only [E.b0, E.b1, E.b2, E.b3, E.b4, E.b5, E.b6, E.b7, E.b8, E.b9, E.b10, E.b11, E.b12, E.b13, E.b14, E.b15, E.b16, E.b17, E.b18, E.b19, E.b20, reduceCtorEq] at hc) <;> (try (exfalso; first | assumption | contradiction | omega)))
        all_goals (first | (refine E.OW.off rfl rfl rfl ?_) | (refine E.OW.pure rfl rfl rfl (E.PV.move rfl rfl) ?_))
        all_goals (first | (refine E.OW.off rfl rfl rfl ?_) | (refine E.OW.pure rfl rfl rfl (E.PV.nilCheck rfl rfl) ?_))
        all_goals (first | (refine E.OW.off rfl rfl rfl ?_) | (refine E.OW.pure rfl rfl rfl (E.PV.fieldAddr fa93_3 rfl rfl) ?_))
        all_goals (first | (refine E.OW.off rfl rfl rfl ?_) | (refine E.OW.pure rfl rfl rfl (E.PV.load_at (E.p_b (E.sr0 hr)) na91 rfl rfl rfl) ?_))
        all_goals (first | (refine E.OW.off rfl rfl rfl ?_) | (refine E.OW.pure rfl rfl rfl (E.PV.move rfl rfl) ?_))
        all_goals (first | (refine E.OW.off rfl rfl rfl ?_) | (refine E.OW.pure rfl rfl rfl (E.PV.indexAddr1 (E.p_d (E.sr0 hr)) Try.underlying91 in31 rfl rfl rfl rfl ?_ ?_) ?_; (focus (first | (simp; done) | (simp; omega))); (focus (omega))))
        all_goals (first | (refine E.OW.off rfl rfl rfl ?_) | (refine E.OW.pure rfl rfl rfl (E.PV.load_sc (E.p_d (E.sr0 hr)) na31 rfl rfl ?_) ?_; (focus (omega))))
        all_goals (first | (refine E.OW.off rfl rfl rfl ?_) | (refine E.OW.pure rfl rfl rfl (E.PV.move rfl rfl) ?_))
        all_goals (first | (refine E.OW.off rfl rfl rfl ?_) | (refine E.OW.pure rfl rfl rfl (E.PV.indexAddr1 (E.p_dr (E.srd hd) ?_) Try.underlying31 in3 rfl rfl rfl rfl ?_ ?_) ?_; (focus (omega)); (focus (first | (simp; done) | (simp; omega))); (focus (omega))))
        all_goals (first | (refine E.OW.off rfl rfl rfl ?_) | (refine E.OW.pure rfl rfl rfl (E.PV.load_ii (E.p_dr (E.srd hd) ?_) na3 rfl rfl ?_) ?_; (focus (omega)); (focus (omega))))
        all_goals (first | (refine E.OW.off rfl rfl rfl ?_) | (refine E.OW.pure rfl rfl rfl (E.PV.move rfl rfl) ?_))
        all_goals (first | (refine E.OW.off rfl rfl rfl ?_) | (refine E.OW.pure rfl rfl rfl (E.PV.sub_i64 rfl rfl rfl ?_) ?_; (focus (omega))))
        all_goals (first | (refine E.OW.off rfl rfl rfl ?_) | (refine E.OW.pure rfl rfl rfl (E.PV.eql rfl rfl rfl) ?_))
        all_goals (first | (refine E.OW.pure rfl rfl rfl (E.PV.pick_t rfl rfl rfl) ?_) | (refine E.OW.pure rfl rfl rfl (E.PV.pick_f rfl rfl rfl) ?_))
        all_goals (
          refine E.OW.nil ?_
          refine E.then_n ?_
          refine E.CW.cond rfl (fun hc => ?_) (fun hc => ?_)
          · first | ((cases hc; done)) | (simp only [E.b0, E.b1, E.b2, E.b3, E.b4, E.b5, E.b6, E.b7, E.b8, E.b9, E.b10, E.b11, E.b12, E.b13, E.b14, E.b15, E.b16, E.b17, E.b18, E.b19, E.b20, reduceCtorEq] at hc)
            all_goals (
              refine E.CW.seq ?_
              refine E.CW.region ?_
              refine E.OW.pure rfl rfl rfl (E.PV.move rfl rfl) ?_
              refine E.OW.pure rfl rfl rfl (E.PV.assign rfl rfl) ?_
              refine E.OW.nil ?_
              refine E.then_n ?_
              refine E.CW.ret ?_
              refine E.blk_ret ?_
              refine E.then_ret ?_
              refine E.then_ret ?_
              refine E.blk_ret ?_
              refine E.then_ret ?_
              refine E.KR.one [] Try.results82 rfl rfl ?_
              exact ⟨by rw [Bf.nx_at (by omega) hI (by simp_all)], rfl⟩)
          · simp only [E.b0, E.b1, E.b2, E.b3, E.b4, E.b5, E.b6, E.b7, E.b8, E.b9, E.b10, E.b11, E.b12, E.b13, E.b14, E.b15, E.b16, E.b17, E.b18, E.b19, E.b20, reduceCtorEq] at hc
            all_goals (
              refine E.CW.skip ?_
              refine E.blk_n ?_
              refine E.then_n ?_
              refine E.CW.region ?_
              refine E.OW.pure rfl rfl rfl (E.PV.add_i64 rfl rfl rfl ?_) ?_; (focus (omega))
              refine E.OW.pure rfl rfl rfl (E.PV.move rfl rfl) ?_
              refine E.OW.nil ?_
              refine E.then_nf ?_
              refine ⟨_, [(24, _)], [], _, ?_, by repeat (first | exact E.cov_nil | refine ⟨rfl, ?_⟩), rfl, j + 1, rfl, rfl, rfl, by omega, Rt.rng_all hI (by simp_all)⟩
              omega)))
    · simp only [E.b0, E.b1, E.b2, E.b3, E.b4, E.b5, E.b6, E.b7, E.b8, E.b9, E.b10, E.b11, E.b12, E.b13, E.b14, E.b15, E.b16, E.b17, E.b18, E.b19, E.b20, reduceCtorEq] at hc
      all_goals (
        refine E.CW.exit ?_
        refine E.then_x ?_
        refine E.then_x ?_
        refine E.blk_eq ?_
        refine E.then_n ?_
        refine E.CW.seq ?_
        refine E.CW.region ?_
        refine E.OW.pure rfl rfl rfl (E.PV.move rfl rfl) ?_
        refine E.OW.pure rfl rfl rfl (E.PV.assign rfl rfl) ?_
        refine E.OW.nil ?_
        refine E.then_n ?_
        refine E.CW.ret ?_
        refine E.KR.one [] Try.results82 rfl rfl ?_
        exact ⟨by rw [Bf.nx_none fun i hi => hI i (by omega)], rfl⟩)

end Go.Proofs.Ytflkbabhbnmajaa

/- Walks (printed by gen.py). -/
namespace Go.Proofs.Ytflkbabhbnmajaa
open Go Go.RowKit
set_option linter.unusedSimpArgs false
set_option linter.unusedVariables false

set_option maxRecDepth 100000 in
theorem Arv_ok (g : E.Cfg) (t a b tick : Int) (w0 : World) (hg : g.rd w0 (E.Old w0)) (hgf : g.q.fit) (ht : 0 ≤ tick ∧ tick < 18446744073709551616) :
    Calls Try.prog 39 #[g.v, .int .i64 t, .agg #[.int .i64 a, .int .i64 b], .int .u64 tick] w0 (E.Post w0 (E.Old w0) fun v Hn => v = .tuple #[.int .i64 (Rt.arrivalR g.q t a b tick).1, .int .i64 (Rt.arrivalR g.q t a b tick).2] ∧ Hn = []) := by
  obtain ⟨hX1, hX2, hX3, hX4⟩ := id hg
  have hgl := E.Cfg.fit_len hgf
  refine E.calls_of (vs := [g.v, .int .i64 t, .agg #[.int .i64 a, .int .i64 b], .int .u64 tick]) (H := []) Try.func39 Try.ntmps39 rfl rfl (E.HA.start w0) ?_
  refine E.CW.seq ?_
  refine E.CW.region ?_
  refine E.OW.box rfl rfl rfl rfl rfl rfl (fun B1 => ?_)
  refine E.OW.box rfl rfl rfl rfl rfl rfl (fun B2 => ?_)
  refine E.OW.pure rfl rfl rfl (E.PV.assign rfl rfl) ?_
  refine E.OW.pure rfl rfl rfl (E.PV.assign rfl rfl) ?_
  refine E.OW.nil ?_
  refine E.then_n ?_
  refine E.CW.seq ?_
  refine E.CW.seq ?_
  refine E.CW.region ?_
  refine E.OW.pure rfl rfl rfl (E.PV.loads (i := 1) is28 rfl rfl rfl rfl) ?_
  refine E.OW.pure rfl rfl rfl (E.PV.move rfl rfl) ?_
  refine E.OW.pure rfl rfl rfl (E.PV.loads (i := 0) is30 rfl rfl rfl rfl) ?_
  refine E.OW.pure rfl rfl rfl (E.PV.move rfl rfl) ?_
  (refine E.OW.call nm58 rfl rfl rfl rfl rfl rfl _ (fun w hw => Le_ok g t a b tick w ?_ ?_ ?_) ?_; (focus (refine hw.rdC ?_; assumption)); (focus (assumption)); (focus (assumption)); rintro _ _ ⟨rfl, rfl⟩)
  refine E.OW.pure rfl rfl rfl (E.PV.assign rfl rfl) ?_
  refine E.OW.nil ?_
  refine E.then_n ?_
  refine E.CW.seq ?_
  refine E.CW.region ?_
  refine E.OW.pure rfl rfl rfl (E.PV.move rfl rfl) ?_
  refine E.OW.pure rfl rfl rfl (E.PV.neq rfl rfl rfl) ?_
  refine E.OW.nil ?_
  refine E.then_n ?_
  refine E.CW.cond rfl (fun hc => ?_) (fun hc => ?_)
  · simp only [E.b0, E.b1, E.b2, E.b3, E.b4, E.b5, E.b6, E.b7, E.b8, E.b9, E.b10, E.b11, E.b12, E.b13, E.b14, E.b15, E.b16, E.b17, E.b18, E.b19, E.b20, reduceCtorEq] at hc
    all_goals (
      refine E.CW.seq ?_
      refine E.CW.region ?_
      refine E.OW.pure rfl rfl rfl (E.PV.move rfl rfl) ?_
      refine E.OW.pure rfl rfl rfl (E.PV.assign rfl rfl) ?_
      refine E.OW.pure rfl rfl rfl (E.PV.assign rfl rfl) ?_
      refine E.OW.nil ?_
      refine E.then_n ?_
      refine E.CW.ret ?_
      refine E.then_ret ?_
      refine E.KR.two [] Try.results39 rfl rfl rfl ?_
      exact ⟨by rw [Rt.arv_err (by assumption)], rfl⟩)
  · simp only [E.b0, E.b1, E.b2, E.b3, E.b4, E.b5, E.b6, E.b7, E.b8, E.b9, E.b10, E.b11, E.b12, E.b13, E.b14, E.b15, E.b16, E.b17, E.b18, E.b19, E.b20, reduceCtorEq] at hc
    all_goals (
      refine E.CW.skip ?_
      refine E.then_n ?_
      refine E.CW.seq ?_
      obtain ⟨hL, hlk⟩ := Rt.leg_of (show Rt.legE g.q t a b tick = 0 by assumption)
      refine E.CW.region ?_
      refine E.OW.pure rfl rfl rfl (E.PV.loads (i := 1) is28 rfl rfl rfl rfl) ?_
      refine E.OW.pure rfl rfl rfl (E.PV.move rfl rfl) ?_
      refine E.OW.pure rfl rfl rfl (E.PV.loads (i := 0) is30 rfl rfl rfl rfl) ?_
      (refine E.OW.call nm59 rfl rfl rfl rfl rfl rfl _ (fun w hw => np_ok g t a b w ?_ ?_ ?_) ?_; (focus (refine hw.rdC ?_; assumption)); (focus (assumption)); (focus (assumption)); rintro _ _ ⟨yP, DP, rfl, rfl, hyx, hyD⟩)
      refine E.OW.pure rfl rfl rfl (E.PV.assign rfl rfl) ?_
      refine E.OW.nil ?_
      have hyn : yP.x.n = g.l.length := by rw [hyx]; rfl
      have hyK : yP.x.K = g.s.length := by rw [hyx]; rfl
      have hn64 : g.l.length ≤ 64 := Rt.len_le hL.c
      have hs16 : 1 ≤ g.s.length ∧ g.s.length ≤ 16 := Rt.per_of hL.c
      have hra : 0 ≤ a ∧ a < (g.l.length : Int) := hL.ra
      have hok : yP.x.ok := by rw [hyx]; exact Rt.G_ok hL
      refine E.then_n ?_
      refine E.CW.seq ?_
      have hkl := Rt.phk_lt (show 1 ≤ yP.x.K by omega) tick
      refine E.CW.draw mixed (by kernel_rfl) ?_
      refine E.QW.pure rfl rfl rfl (E.PV.move rfl rfl) ?_
      refine E.QW.pure rfl rfl rfl (E.PV.nilCheck rfl rfl) ?_
      refine E.QW.pure rfl rfl rfl (E.PV.fieldAddr fa93_3 rfl rfl) ?_
      refine E.QW.pure rfl rfl rfl (E.PV.load_at (E.p_b (E.sr0p (i := 0) rfl)) na91 rfl rfl rfl) ?_
      refine E.QW.pure rfl rfl rfl (E.PV.move rfl rfl) ?_
      refine E.QW.pure rfl rfl rfl (E.PV.move rfl rfl) ?_
      (refine E.QW.call nm60 rfl rfl rfl rfl rfl rfl _ (fun w hw => E.Post.val (ph_ok yP tick w ?_ ?_ ?_)) ?_; (focus (exact E.sr0p (i := 0) rfl w hw)); (focus (omega)); (focus (assumption)))
      refine E.QW.pure rfl rfl rfl (E.PV.indexAddr1 (E.p_d (E.sr0p (i := 0) rfl)) Try.underlying91 in31 rfl rfl rfl rfl ?_ ?_) ?_; (focus (first | (simp; done) | (simp; omega))); (focus (omega))
      refine E.QW.pure rfl rfl rfl (E.PV.load_sc (E.p_d (E.sr0p (i := 0) rfl)) na31 rfl rfl ?_) ?_; (focus (omega))
      refine E.QW.pure rfl rfl rfl (E.PV.fieldAddr fa30_0 rfl rfl) ?_
      refine E.QW.pure rfl rfl rfl (E.PV.load (i := 1) na3 rfl rfl rfl rfl) ?_
      refine E.QW.pure rfl rfl rfl (E.PV.indexAddr1 (E.p_dr (E.srdp (i := 0) rfl) ?_) Try.underlying31 in3 rfl rfl rfl (E.tn ?_) ?_ ?_) ?_; (focus (omega)); (focus (omega)); (focus (first | (simp; done) | (simp; omega))); (focus (omega))
      refine E.QW.pure rfl rfl rfl (E.PV.load_ii (E.p_dr (E.srdp (i := 0) rfl) ?_) na3 rfl rfl ?_) ?_; (focus (omega)); (focus (omega))
      refine E.QW.pure rfl rfl rfl (E.PV.assign rfl rfl) ?_
      refine E.QW.nil ?_
      refine E.then_n ?_
      refine E.CW.seq ?_
      refine E.CW.seq ?_
      have hA := Rt.plan_arr hL hyx hyD (tick := tick)
      refine E.CW.region ?_
      refine E.OW.pure rfl rfl rfl (E.PV.move rfl rfl) ?_
      refine E.OW.pure rfl rfl rfl (E.PV.lss rfl rfl rfl) ?_
      refine E.OW.nil ?_
      refine E.then_n ?_
      refine E.CW.cond rfl (fun hc => ?_) (fun hc => ?_)
      · simp only [E.b0, E.b1, E.b2, E.b3, E.b4, E.b5, E.b6, E.b7, E.b8, E.b9, E.b10, E.b11, E.b12, E.b13, E.b14, E.b15, E.b16, E.b17, E.b18, E.b19, E.b20, reduceCtorEq] at hc
        all_goals (
          refine E.CW.seq ?_
          refine E.CW.region ?_
          refine E.OW.pure rfl rfl rfl (E.PV.assign rfl rfl) ?_
          refine E.OW.pure rfl rfl rfl (E.PV.assign rfl rfl) ?_
          refine E.OW.nil ?_
          refine E.then_n ?_
          refine E.CW.ret ?_
          refine E.then_ret ?_
          refine E.KR.two [] Try.results39 rfl rfl rfl ?_
          exact ⟨by rw [Rt.arv_of (by assumption), if_pos (by omega)], rfl⟩)
      · simp only [E.b0, E.b1, E.b2, E.b3, E.b4, E.b5, E.b6, E.b7, E.b8, E.b9, E.b10, E.b11, E.b12, E.b13, E.b14, E.b15, E.b16, E.b17, E.b18, E.b19, E.b20, reduceCtorEq] at hc
        all_goals (
          refine E.CW.skip ?_
          refine E.then_n ?_
          refine E.CW.seq ?_
          refine E.CW.region ?_
          refine E.OW.pure rfl rfl rfl (E.PV.move rfl rfl) ?_
          refine E.OW.pure rfl rfl rfl (E.PV.assign rfl rfl) ?_
          refine E.OW.pure rfl rfl rfl (E.PV.assign rfl rfl) ?_
          refine E.OW.nil ?_
          refine E.then_n ?_
          refine E.CW.ret ?_
          refine E.KR.two [] Try.results39 rfl rfl rfl ?_
          exact ⟨by rw [Rt.arv_of (by assumption), if_neg (by omega), hA], rfl⟩))

set_option maxRecDepth 100000 in
theorem Tb_ok (g : E.Cfg) (t a b : Int) (w0 : World) (hg : g.rd w0 (E.Old w0)) (hgf : g.q.fit) :
    Calls Try.prog 23 #[g.v, .int .i64 t, .agg #[.int .i64 a, .int .i64 b]] w0 (E.Post w0 (E.Old w0) fun v Hn => ∃ A2 c2, v = .tuple #[.slice A2 ((Rt.tableR g.q t a b).1).length c2, .int .i64 (Rt.tableR g.q t a b).2] ∧ Hn = [E.HP.row 3 1 A2 ((Rt.tableR g.q t a b).1).length c2 (E.ints ((Rt.tableR g.q t a b).1))]) := by
  obtain ⟨hX1, hX2, hX3, hX4⟩ := id hg
  have hgl := E.Cfg.fit_len hgf
  refine E.calls_of (vs := [g.v, .int .i64 t, .agg #[.int .i64 a, .int .i64 b]]) (H := []) Try.func23 Try.ntmps23 rfl rfl (E.HA.start w0) ?_
  refine E.CW.seq ?_
  refine E.CW.region ?_
  refine E.OW.box rfl rfl rfl rfl rfl rfl (fun B1 => ?_)
  refine E.OW.box rfl rfl rfl rfl rfl rfl (fun B2 => ?_)
  refine E.OW.pure rfl rfl rfl (E.PV.assign rfl rfl) ?_
  refine E.OW.pure rfl rfl rfl (E.PV.assign rfl rfl) ?_
  refine E.OW.nil ?_
  refine E.then_n ?_
  refine E.CW.seq ?_
  refine E.CW.seq ?_
  refine E.CW.region ?_
  refine E.OW.pure rfl rfl rfl (E.PV.loads (i := 1) is28 rfl rfl rfl rfl) ?_
  refine E.OW.pure rfl rfl rfl (E.PV.move rfl rfl) ?_
  refine E.OW.pure rfl rfl rfl (E.PV.loads (i := 0) is30 rfl rfl rfl rfl) ?_
  (refine E.OW.call nm58 rfl rfl rfl rfl rfl rfl _ (fun w hw => Le_ok g t a b 0 w ?_ ?_ ?_) ?_; (focus (refine hw.rdC ?_; assumption)); (focus (assumption)); (focus (omega)); rintro _ _ ⟨rfl, rfl⟩)
  refine E.OW.pure rfl rfl rfl (E.PV.assign rfl rfl) ?_
  refine E.OW.nil ?_
  refine E.then_n ?_
  refine E.CW.seq ?_
  refine E.CW.region ?_
  refine E.OW.pure rfl rfl rfl (E.PV.move rfl rfl) ?_
  refine E.OW.pure rfl rfl rfl (E.PV.neq rfl rfl rfl) ?_
  refine E.OW.nil ?_
  refine E.then_n ?_
  refine E.CW.cond rfl (fun hc => ?_) (fun hc => ?_)
  · simp only [E.b0, E.b1, E.b2, E.b3, E.b4, E.b5, E.b6, E.b7, E.b8, E.b9, E.b10, E.b11, E.b12, E.b13, E.b14, E.b15, E.b16, E.b17, E.b18, E.b19, E.b20, reduceCtorEq] at hc
    all_goals (
      refine E.CW.seq ?_
      refine E.CW.nilrow 3 1 ?_
      refine E.CW.region ?_
      refine E.OW.pure rfl rfl rfl (E.PV.move rfl rfl) ?_
      refine E.OW.pure rfl rfl rfl (E.PV.assign rfl rfl) ?_
      refine E.OW.pure rfl rfl rfl (E.PV.assign rfl rfl) ?_
      refine E.OW.nil ?_
      refine E.then_n ?_
      refine E.CW.ret ?_
      refine E.then_ret ?_
      refine E.KR.two [0] Try.results23 rfl rfl rfl ?_
      rw [show Rt.tableR g.q t a b = ([], Rt.legE g.q t a b 0) from if_neg (by assumption)]
      exact ⟨none, 0, rfl, rfl⟩)
  · simp only [E.b0, E.b1, E.b2, E.b3, E.b4, E.b5, E.b6, E.b7, E.b8, E.b9, E.b10, E.b11, E.b12, E.b13, E.b14, E.b15, E.b16, E.b17, E.b18, E.b19, E.b20, reduceCtorEq] at hc
    all_goals (
      refine E.CW.skip ?_
      refine E.then_n ?_
      refine E.CW.seq ?_
      refine E.CW.region ?_
      refine E.OW.pure rfl rfl rfl (E.PV.assign rfl rfl) ?_
      refine E.OW.nil ?_
      refine E.then_n ?_
      refine E.CW.seq ?_
      refine E.CW.seq ?_
      obtain ⟨hL, hlk⟩ := Rt.leg_of (show Rt.legE g.q t a b 0 = 0 by assumption)
      refine E.CW.nilrow 3 1 ?_
      refine E.CW.region ?_
      refine E.OW.pure rfl rfl rfl (E.PV.loads (i := 2) is28 rfl rfl rfl rfl) ?_
      refine E.OW.pure rfl rfl rfl (E.PV.move rfl rfl) ?_
      refine E.OW.pure rfl rfl rfl (E.PV.loads (i := 1) is30 rfl rfl rfl rfl) ?_
      (refine E.OW.call nm59 rfl rfl rfl rfl rfl rfl _ (fun w hw => np_ok g t a b w ?_ ?_ ?_) ?_; (focus (refine hw.rdC ?_; assumption)); (focus (assumption)); (focus (assumption)); rintro _ _ ⟨yP, DP, rfl, rfl, hyx, hyD⟩)
      refine E.OW.pure rfl rfl rfl (E.PV.nilCheck rfl rfl) ?_
      refine E.OW.pure rfl rfl rfl (E.PV.fieldAddr fa93_3 rfl rfl) ?_
      refine E.OW.pure rfl rfl rfl (E.PV.load_at (E.p_b (E.sr0p (i := 0) rfl)) na91 rfl rfl rfl) ?_
      refine E.OW.pure rfl rfl rfl (E.PV.len Try.underlying91 rfl rfl) ?_
      refine E.OW.pure rfl rfl rfl (E.PV.move rfl rfl) ?_
      refine E.OW.nil ?_
      have hyn : yP.x.n = g.l.length := by rw [hyx]; rfl
      have hyK : yP.x.K = g.s.length := by rw [hyx]; rfl
      have hn64 : g.l.length ≤ 64 := Rt.len_le hL.c
      have hs16 : 1 ≤ g.s.length ∧ g.s.length ≤ 16 := Rt.per_of hL.c
      have hra : 0 ≤ a ∧ a < (g.l.length : Int) := hL.ra
      have hok : yP.x.ok := by rw [hyx]; exact Rt.G_ok hL
      refine E.then_n ?_
      refine E.CW.block ?_
      refine E.CW.sels [1, 0, 0, 0] rfl ?_
      refine E.CW.loopk [5, 25, 26] 1 rfl rfl (fun mm mods Hm => ∃ k : Nat, ∃ A : Option Addr, ∃ e : Nat, mm = yP.x.K - k ∧ mods = [(27, .int .i64 k), (9, .slice A (Rt.tbl DP a.toNat k).length e)] ∧ Hm = [E.HP.row 3 1 A (Rt.tbl DP a.toNat k).length e (E.ints (Rt.tbl DP a.toNat k))] ∧ k ≤ yP.x.K) (yP.x.K) ?_ ?_
      · exact ⟨[(27, _), (9, _)], (by repeat (first | exact E.cov_nil | refine ⟨rfl, ?_⟩)), 0, none, 0, rfl, rfl, rfl, by omega⟩
      · rintro _ _ _ ⟨k, A, e, rfl, rfl, rfl, hk⟩
        have hpl := Rt.tbl_len DP a.toNat k
        refine E.CW.seq ?_
        refine E.CW.region ?_
        refine E.OW.pure rfl rfl rfl (E.PV.lss rfl rfl rfl) ?_
        refine E.OW.nil ?_
        refine E.then_n ?_
        refine E.CW.seq ?_
        refine E.CW.cond rfl (fun hc => ?_) (fun hc => ?_)
        · simp only [E.b0, E.b1, E.b2, E.b3, E.b4, E.b5, E.b6, E.b7, E.b8, E.b9, E.b10, E.b11, E.b12, E.b13, E.b14, E.b15, E.b16, E.b17, E.b18, E.b19, E.b20, reduceCtorEq] at hc
          all_goals (
            refine E.CW.skip ?_
            refine E.then_n ?_
            refine E.CW.seq ?_
            refine E.CW.block ?_
            refine E.CW.seq ?_
            refine E.CW.region ?_
            refine E.OW.pure rfl rfl rfl (E.PV.indexAddr1 (E.p_d (E.sr0p (i := 1) rfl)) Try.underlying91 in31 rfl rfl rfl rfl ?_ ?_) ?_; (focus (first | (simp; done) | (simp; omega))); (focus (omega))
            refine E.OW.pure rfl rfl rfl (E.PV.load_sc (E.p_d (E.sr0p (i := 1) rfl)) na31 rfl rfl ?_) ?_; (focus (omega))
            refine E.OW.pure rfl rfl rfl (E.PV.assign rfl rfl) ?_
            refine E.OW.nil ?_
            refine E.then_n ?_
            refine E.CW.region ?_
            refine E.OW.pure rfl rfl rfl (E.PV.move rfl rfl) ?_
            refine E.OW.pure rfl rfl rfl (E.PV.move rfl rfl) ?_
            refine E.OW.pure rfl rfl rfl (E.PV.fieldAddr fa30_0 rfl rfl) ?_
            refine E.OW.pure rfl rfl rfl (E.PV.load (i := 2) na3 rfl rfl rfl rfl) ?_
            refine E.OW.pure rfl rfl rfl (E.PV.indexAddr1 (E.p_dr (E.srdp (i := 1) rfl) ?_) Try.underlying31 in3 rfl rfl rfl (E.tn ?_) ?_ ?_) ?_; (focus (omega)); (focus (omega)); (focus (first | (simp; done) | (simp; omega))); (focus (omega))
            refine E.OW.pure rfl rfl rfl (E.PV.load_ii (E.p_dr (E.srdp (i := 1) rfl) ?_) na3 rfl rfl ?_) ?_; (focus (omega)); (focus (omega))
            refine E.OW.buildSlice (Et := 3) (sz := 1) (ps := [(0, .tmp 36)]) rfl rfl rfl rfl rfl (by simp) (by unfold maxLen; omega) (fun w => bsl31_1_0 _ w) (fun A3 => ?_)
            refine E.OW.app_int1 (j := 0) (i := 0) Try.underlying31 in3 rfl rfl rfl rfl rfl rfl rfl rfl rfl rfl ?_ (fun A4 c4 => ?_); (focus ((first | omega | (simp only [List.length_append, List.length_cons, List.length_nil] at *; omega) | (unfold maxLen at *; omega))))
            refine E.OW.pure rfl rfl rfl (E.PV.assign rfl rfl) ?_
            refine E.OW.nil ?_
            refine E.blk_n ?_
            refine E.then_n ?_
            refine E.CW.region ?_
            refine E.OW.pure rfl rfl rfl (E.PV.add_i64 rfl rfl rfl ?_) ?_; (focus (omega))
            refine E.OW.pure rfl rfl rfl (E.PV.move rfl rfl) ?_
            refine E.OW.nil ?_
            refine E.then_nf ?_
            refine ⟨_, [(27, _), (9, _)], [0, 0, 0, 0], [_], ?_, by repeat (first | exact E.cov_nil | refine ⟨rfl, ?_⟩), rfl, k + 1, A4, c4, rfl, by rw [Rt.tbl_succ]; rfl, by rw [Rt.tbl_succ], by omega⟩
            omega)
        · simp only [E.b0, E.b1, E.b2, E.b3, E.b4, E.b5, E.b6, E.b7, E.b8, E.b9, E.b10, E.b11, E.b12, E.b13, E.b14, E.b15, E.b16, E.b17, E.b18, E.b19, E.b20, reduceCtorEq] at hc
          all_goals (
            refine E.CW.exit ?_
            refine E.then_x ?_
            refine E.then_x ?_
            refine E.blk_eq ?_
            refine E.then_n ?_
            refine E.CW.seq ?_
            refine E.CW.region ?_
            refine E.OW.pure rfl rfl rfl (E.PV.move rfl rfl) ?_
            refine E.OW.pure rfl rfl rfl (E.PV.assign rfl rfl) ?_
            refine E.OW.pure rfl rfl rfl (E.PV.assign rfl rfl) ?_
            refine E.OW.nil ?_
            refine E.then_n ?_
            refine E.CW.ret ?_
            refine E.KR.two [0] Try.results23 rfl rfl rfl ?_
            obtain rfl : k = yP.x.K := by omega
            rw [show Rt.tableR g.q t a b = (Rt.tbl DP a.toNat yP.x.K, 0) from by rw [Rt.tbl_all fun i hi => Rt.plan_at hL hyx hyD hi, hyx]; exact if_pos (by assumption)]
            exact ⟨_, _, rfl, rfl⟩))
end Go.Proofs.Ytflkbabhbnmajaa

/- Closed facts on the program (printed by gen.py). -/
namespace Go.Proofs.Ytflkbabhbnmajaa
open Go Go.RowKit
set_option linter.unusedSimpArgs false
set_option linter.unusedVariables false
theorem nm39 : E.Nm Try.prog 39 := ⟨Try.f39, Try.func39, rfl, by kernel_rfl⟩
theorem nm40 : E.Nm Try.prog 40 := ⟨Try.f40, Try.func40, rfl, by kernel_rfl⟩
theorem nm82 : E.Nm Try.prog 82 := ⟨Try.f82, Try.func82, rfl, by kernel_rfl⟩
end Go.Proofs.Ytflkbabhbnmajaa

/- Walks (printed by gen.py). -/
namespace Go.Proofs.Ytflkbabhbnmajaa
open Go Go.RowKit
set_option linter.unusedSimpArgs false
set_option linter.unusedVariables false

set_option maxRecDepth 100000 in
theorem Ro_ok (g : E.Cfg) (t a b tick : Int) (w0 : World) (hg : g.rd w0 (E.Old w0)) (hgf : g.q.fit) (ht : 0 ≤ tick ∧ tick < 18446744073709551616) :
    Calls Try.prog 40 #[g.v, .int .i64 t, .agg #[.int .i64 a, .int .i64 b], .int .u64 tick] w0 (E.Post w0 (E.Old w0) fun v Hn => ∃ A2 c2, v = .tuple #[.slice A2 ((Rt.routeR g.q t a b tick).1).length c2, .int .i64 (Rt.routeR g.q t a b tick).2] ∧ Hn = [E.HP.row 3 1 A2 ((Rt.routeR g.q t a b tick).1).length c2 (E.ints ((Rt.routeR g.q t a b tick).1))]) := by
  obtain ⟨hX1, hX2, hX3, hX4⟩ := id hg
  have hgl := E.Cfg.fit_len hgf
  refine E.calls_of (vs := [g.v, .int .i64 t, .agg #[.int .i64 a, .int .i64 b], .int .u64 tick]) (H := []) Try.func40 Try.ntmps40 rfl rfl (E.HA.start w0) ?_
  refine E.CW.seq ?_
  refine E.CW.region ?_
  refine E.OW.box rfl rfl rfl rfl rfl rfl (fun B1 => ?_)
  refine E.OW.box rfl rfl rfl rfl rfl rfl (fun B2 => ?_)
  refine E.OW.pure rfl rfl rfl (E.PV.assign rfl rfl) ?_
  refine E.OW.pure rfl rfl rfl (E.PV.assign rfl rfl) ?_
  refine E.OW.nil ?_
  refine E.then_n ?_
  refine E.CW.seq ?_
  refine E.CW.region ?_
  refine E.OW.pure rfl rfl rfl (E.PV.loads (i := 1) is28 rfl rfl rfl rfl) ?_
  refine E.OW.pure rfl rfl rfl (E.PV.move rfl rfl) ?_
  refine E.OW.pure rfl rfl rfl (E.PV.loads (i := 0) is30 rfl rfl rfl rfl) ?_
  refine E.OW.pure rfl rfl rfl (E.PV.move rfl rfl) ?_
  (refine E.OW.call nm39 rfl rfl rfl rfl rfl rfl _ (fun w hw => Arv_ok g t a b tick w ?_ ?_ ?_) ?_; (focus (refine hw.rdC ?_; assumption)); (focus (assumption)); (focus (assumption)); rintro _ _ ⟨rfl, rfl⟩)
  refine E.OW.pure rfl rfl rfl (E.PV.move rfl rfl) ?_
  refine E.OW.pure rfl rfl rfl (E.PV.extract rfl rfl rfl) ?_
  refine E.OW.pure rfl rfl rfl (E.PV.extract rfl rfl rfl) ?_
  refine E.OW.pure rfl rfl rfl (E.PV.assign rfl rfl) ?_
  refine E.OW.pure rfl rfl rfl (E.PV.assign rfl rfl) ?_
  refine E.OW.nil ?_
  refine E.then_n ?_
  refine E.CW.seq ?_
  refine E.CW.seq ?_
  refine E.CW.region ?_
  refine E.OW.pure rfl rfl rfl (E.PV.move rfl rfl) ?_
  refine E.OW.pure rfl rfl rfl (E.PV.neq rfl rfl rfl) ?_
  refine E.OW.nil ?_
  refine E.then_n ?_
  refine E.CW.cond rfl (fun hc => ?_) (fun hc => ?_)
  · simp only [E.b0, E.b1, E.b2, E.b3, E.b4, E.b5, E.b6, E.b7, E.b8, E.b9, E.b10, E.b11, E.b12, E.b13, E.b14, E.b15, E.b16, E.b17, E.b18, E.b19, E.b20, reduceCtorEq] at hc
    all_goals (
      refine E.CW.seq ?_
      refine E.CW.nilrow 3 1 ?_
      refine E.CW.region ?_
      refine E.OW.pure rfl rfl rfl (E.PV.move rfl rfl) ?_
      refine E.OW.pure rfl rfl rfl (E.PV.assign rfl rfl) ?_
      refine E.OW.pure rfl rfl rfl (E.PV.assign rfl rfl) ?_
      refine E.OW.nil ?_
      refine E.then_n ?_
      refine E.CW.ret ?_
      refine E.then_ret ?_
      refine E.KR.two [0] Try.results40 rfl rfl rfl ?_
      rw [Rt.route_err (by assumption)]
      exact ⟨none, 0, rfl, rfl⟩)
  · simp only [E.b0, E.b1, E.b2, E.b3, E.b4, E.b5, E.b6, E.b7, E.b8, E.b9, E.b10, E.b11, E.b12, E.b13, E.b14, E.b15, E.b16, E.b17, E.b18, E.b19, E.b20, reduceCtorEq] at hc
    all_goals (
      refine E.CW.skip ?_
      refine E.then_n ?_
      refine E.CW.seq ?_
      obtain ⟨hle, har1, har0, hrt⟩ := Rt.route_ok (show (Rt.arrivalR g.q t a b tick).2 = 0 by assumption)
      obtain ⟨hL, hlk⟩ := Rt.leg_of hle
      have hN1024 := Rt.arr_le (tick := tick) hL
      obtain ⟨N, hN⟩ : ∃ N : Nat, Rt.arrv g.q t a b tick = (N : Int) := ⟨_, (Int.toNat_of_nonneg har0).symm⟩
      refine E.CW.region ?_
      refine E.OW.pure rfl rfl rfl (E.PV.loads (i := 1) is28 rfl rfl rfl rfl) ?_
      refine E.OW.pure rfl rfl rfl (E.PV.move rfl rfl) ?_
      refine E.OW.pure rfl rfl rfl (E.PV.loads (i := 0) is30 rfl rfl rfl rfl) ?_
      (refine E.OW.call nm59 rfl rfl rfl rfl rfl rfl _ (fun w hw => np_ok g t a b w ?_ ?_ ?_) ?_; (focus (refine hw.rdC ?_; assumption)); (focus (assumption)); (focus (assumption)); rintro _ _ ⟨yP, DP, rfl, rfl, hyx, hyD⟩)
      refine E.OW.pure rfl rfl rfl (E.PV.assign rfl rfl) ?_
      refine E.OW.nil ?_
      have hyn : yP.x.n = g.l.length := by rw [hyx]; rfl
      have hyK : yP.x.K = g.s.length := by rw [hyx]; rfl
      have hn64 : g.l.length ≤ 64 := Rt.len_le hL.c
      have hs16 : 1 ≤ g.s.length ∧ g.s.length ≤ 16 := Rt.per_of hL.c
      have hra : 0 ≤ a ∧ a < (g.l.length : Int) := hL.ra
      have hok : yP.x.ok := by rw [hyx]; exact Rt.G_ok hL
      have haN : Bf.arr yP.x (Rt.phk yP.x.K tick) a.toNat = (N : Int) := by rw [hyx]; exact hN
      have hac : yP.x.cell a.toNat = true := by rw [hyx]; exact Rt.cell_from hL
      refine E.then_n ?_
      refine E.CW.seq ?_
      refine E.CW.region ?_
      refine E.OW.pure rfl rfl rfl (E.PV.fieldAddr fa30_0 rfl rfl) ?_
      refine E.OW.pure rfl rfl rfl (E.PV.load (i := 1) na3 rfl rfl rfl rfl) ?_
      refine E.OW.buildSlice (Et := 3) (sz := 1) (ps := [(0, .tmp 31)]) rfl rfl rfl rfl rfl (by simp) (by unfold maxLen; omega) (fun w => bsl31_1_0 _ w) (fun A3 => ?_)
      refine E.OW.pure rfl rfl rfl (E.PV.assign rfl rfl) ?_
      refine E.OW.nil ?_
      refine E.then_n ?_
      refine E.CW.seq ?_
      refine E.CW.seq ?_
      refine E.CW.region ?_
      refine E.OW.pure rfl rfl rfl (E.PV.fieldAddr fa30_0 rfl rfl) ?_
      refine E.OW.pure rfl rfl rfl (E.PV.load (i := 2) na3 rfl rfl rfl rfl) ?_
      refine E.OW.pure rfl rfl rfl (E.PV.assign rfl rfl) ?_
      refine E.OW.nil ?_
      refine E.then_n ?_
      refine E.CW.block ?_
      refine E.CW.sels [0, 0, 0, 0] rfl ?_
      refine E.CW.loopk [12] 1 rfl rfl (fun mm mods Hm => ∃ i : Nat, ∃ p : Nat, ∃ o : List Int, ∃ A : Option Addr, ∃ e : Nat, mm = N - i ∧ mods = [(3, .int .u64 (tick + (i : Int))), (10, .int .i64 ((N : Int) - (i : Int))), (13, .slice A o.length e), (14, .int .i64 (p : Int))] ∧ Hm = [E.HP.row 3 1 A (o).length e (E.ints (o))] ∧ Rt.RI yP.x N tick a.toNat i p o) (N) ?_ ?_
      · exact ⟨[(3, _), (10, _), (13, _), (14, _)], (by repeat (first | exact E.cov_nil | refine ⟨rfl, ?_⟩)), 0, a.toNat, [a], _, _, rfl, (by rw [har1, hN]; simp [Int.toNat_of_nonneg hra.1]), rfl, (by have h := Rt.RI.start (tick := tick) (a0 := a.toNat) (by omega) hac haN; rwa [Int.toNat_of_nonneg hra.1] at h)⟩
      · rintro _ _ _ ⟨i, p, o, A, e, rfl, rfl, rfl, hI⟩
        have hil := hI.hi
        have hol := hI.hl
        refine E.CW.seq ?_
        refine E.CW.seq ?_
        refine E.CW.region ?_
        refine E.OW.pure rfl rfl rfl (E.PV.move rfl rfl) ?_
        refine E.OW.pure rfl rfl rfl (E.PV.gtr rfl rfl rfl) ?_
        refine E.OW.nil ?_
        refine E.then_n ?_
        refine E.CW.cond rfl (fun hc => ?_) (fun hc => ?_)
        · simp only [E.b0, E.b1, E.b2, E.b3, E.b4, E.b5, E.b6, E.b7, E.b8, E.b9, E.b10, E.b11, E.b12, E.b13, E.b14, E.b15, E.b16, E.b17, E.b18, E.b19, E.b20, reduceCtorEq] at hc
          all_goals (
            refine E.CW.skip ?_
            refine E.then_n ?_
            refine E.CW.seq ?_
            refine E.CW.block ?_
            refine E.CW.seq ?_
            have hiN : i < N := by omega
            refine E.CW.region ?_
            refine E.OW.pure rfl rfl rfl (E.PV.move rfl rfl) ?_
            refine E.OW.pure rfl rfl rfl (E.PV.move rfl rfl) ?_
            refine E.OW.pure rfl rfl rfl (E.PV.move rfl rfl) ?_
            refine E.OW.pure rfl rfl rfl (E.PV.move rfl rfl) ?_
            (refine E.OW.call nm82 rfl rfl rfl rfl rfl rfl _ (fun w hw => nx_ok yP DP p (tick + (i : Int)) ((N : Int) - (i : Int)) w ?_ ?_ (by omega) hok (Rt.plan_all hyD) hI.hp (by omega) (by omega) (by rw [hyx]; exact Rt.G_near _ _ _ _ _)) ?_; (focus (exact E.sr0p (i := 1) rfl w hw)); (focus (exact E.srdp (i := 1) rfl w hw)); rintro _ _ ⟨rfl, rfl⟩)
            refine E.OW.pure rfl rfl rfl (E.PV.assign rfl rfl) ?_
            refine E.OW.nil ?_
            refine E.then_n ?_
            refine E.CW.seq ?_
            refine E.CW.region ?_
            refine E.OW.pure rfl rfl rfl (E.PV.move rfl rfl) ?_
            refine E.OW.pure rfl rfl rfl (E.PV.add_u64 rfl rfl rfl ?_) ?_; (focus (omega))
            refine E.OW.pure rfl rfl rfl (E.PV.assign rfl rfl) ?_
            refine E.OW.nil ?_
            refine E.then_n ?_
            refine E.CW.region ?_
            refine E.OW.pure rfl rfl rfl (E.PV.move rfl rfl) ?_
            refine E.OW.pure rfl rfl rfl (E.PV.move rfl rfl) ?_
            refine E.OW.buildSlice (Et := 3) (sz := 1) (ps := [(0, .tmp 47)]) rfl rfl rfl rfl rfl (by simp) (by unfold maxLen; omega) (fun w => bsl31_1_0 _ w) (fun A4 => ?_)
            refine E.OW.app_int1 (j := 0) (i := 0) Try.underlying31 in3 rfl rfl rfl rfl rfl rfl rfl rfl rfl rfl ?_ (fun A5 c5 => ?_); (focus ((first | omega | (simp only [List.length_append, List.length_cons, List.length_nil] at *; omega) | (unfold maxLen at *; omega))))
            refine E.OW.pure rfl rfl rfl (E.PV.assign rfl rfl) ?_
            refine E.OW.nil ?_
            refine E.blk_n ?_
            refine E.then_n ?_
            refine E.CW.region ?_
            refine E.OW.pure rfl rfl rfl (E.PV.move rfl rfl) ?_
            refine E.OW.pure rfl rfl rfl (E.PV.sub_i64 rfl rfl rfl ?_) ?_; (focus (omega))
            refine E.OW.pure rfl rfl rfl (E.PV.assign rfl rfl) ?_
            refine E.OW.nil ?_
            refine E.then_nf ?_
            refine ⟨_, [(3, _), (10, _), (13, _), (14, _)], [0, 0, 0, 0], [_], ?_, by repeat (first | exact E.cov_nil | refine ⟨rfl, ?_⟩), rfl, i + 1, _, _, _, _, rfl, (by rw [show tick + ((i + 1 : Nat) : Int) = tick + (i : Int) + 1 by omega, show (N : Int) - ((i + 1 : Nat) : Int) = (N : Int) - (i : Int) - 1 by omega]), rfl, hI.step hok (by omega) hiN⟩
            omega)
        · simp only [E.b0, E.b1, E.b2, E.b3, E.b4, E.b5, E.b6, E.b7, E.b8, E.b9, E.b10, E.b11, E.b12, E.b13, E.b14, E.b15, E.b16, E.b17, E.b18, E.b19, E.b20, reduceCtorEq] at hc
          all_goals (
            refine E.CW.exit ?_
            refine E.then_x ?_
            refine E.then_x ?_
            refine E.blk_eq ?_
            refine E.then_n ?_
            refine E.CW.seq ?_
            refine E.CW.region ?_
            refine E.OW.pure rfl rfl rfl (E.PV.move rfl rfl) ?_
            refine E.OW.pure rfl rfl rfl (E.PV.assign rfl rfl) ?_
            refine E.OW.pure rfl rfl rfl (E.PV.assign rfl rfl) ?_
            refine E.OW.nil ?_
            refine E.then_n ?_
            refine E.CW.ret ?_
            refine E.KR.two [0] Try.results40 rfl rfl rfl ?_
            obtain rfl : i = N := by omega
            rw [hrt, show Rt.rts g.q t a b tick = o from by rw [hI.fin, hyx]; unfold Rt.rts; rw [hN]; rfl]
            exact ⟨_, _, rfl, rfl⟩))

end Go.Proofs.Ytflkbabhbnmajaa

/- The legs of a tenant, the longest one, sound configs, bounds: plainly; and their slices. -/
set_option linter.unusedSimpArgs false
set_option linter.unusedVariables false
namespace Go.Proofs.Ytflkbabhbnmajaa
namespace Rt
open Cf
theorem prs_mem {u v : List Int} {x : Int × Int} : x ∈ prs u v ↔ x.1 ∈ u ∧ x.2 ∈ v := by
  unfold prs
  simp only [List.mem_flatMap, List.mem_map]
  constructor
  · rintro ⟨p, h1, q, h2, rfl⟩; exact ⟨h1, h2⟩
  · rintro ⟨h1, h2⟩; exact ⟨x.1, h1, x.2, h2, rfl⟩
structure Ten (g : C) (t : Int) : Prop where
  c : check g = 0
  p : present g.ts t = true
theorem Ten.ten {g : C} {t : Int} (h : Ten g t) : 0 ≤ t ∧ t < 3 ∧ t.toNat < g.ts.length := by
  have h1 := pres_lt h.p
  have h2 := teams_len (check_zero h.c).2.2.1
  omega
theorem Ten.valid {g : C} {t : Int} (h : Ten g t) : validTeam g.l t (team g t) = true := by
  have h1 := h.ten
  have h2 := team_at h.c h1.2.2
  have h3 := h.p
  unfold present at h3
  simp only [Bool.and_eq_true, Bool.not_eq_true'] at h3
  rcases h2 with h2 | h2
  · exact absurd h2 (by rw [show (g.ts.getD t.toNat T.z) = g.ts.getD t.toNat T.z from rfl, h3.2]; decide)
  · rw [Int.toNat_of_nonneg h1.1] at h2; exact h2
theorem Ten.spot {g : C} {t : Int} (h : Ten g t) {p : Int} (hp : p ∈ spots (team g t)) : (0 ≤ p ∧ p < g.l.length) ∧ owner g p = t := by
  have h1 := h.valid
  unfold validTeam at h1
  simp only [Bool.and_eq_true, List.all_eq_true] at h1
  have h2 := h1.1.2 p hp
  unfold ownAt at h2
  simp only [Bool.and_eq_true, decide_eq_true_eq] at h2
  refine ⟨h2.1, ?_⟩
  rw [owner_on h.c h2.1]
  have h3 := h.ten
  have h4 := Fl.okc_at (check_zero h.c).1 (j := p.toNat) (by omega)
  have h5 := h2.2
  rw [Fl.own_iff ⟨h3.1, h3.2.1⟩ h4] at h5
  exact of_decide_eq_true h5
theorem Ten.small {g : C} {t : Int} (h : Ten g t) : (1 ≤ (team g t).h.length ∧ (team g t).h.length ≤ 3) ∧ (1 ≤ (team g t).p.length ∧ (team g t).p.length ≤ 3) ∧ (1 ≤ (team g t).d.length ∧ (team g t).d.length ≤ 3) := by
  have h1 := h.valid
  unfold validTeam at h1
  simp only [Bool.and_eq_true] at h1
  exact numbers_len h1.1.1
theorem Ten.nums {g : C} {t : Int} (h : Ten g t) : (1 ≤ (team g t).n1 ∧ (team g t).n1 ≤ 8) ∧ (1 ≤ (team g t).n2 ∧ (team g t).n2 ≤ 8) ∧ (1 ≤ (team g t).n3 ∧ (team g t).n3 ≤ 8) := by
  have h1 := h.valid
  unfold validTeam numbers lims btw at h1
  simp only [Bool.and_eq_true, List.all_cons, decide_eq_true_eq] at h1
  omega
theorem Ten.leg {g : C} {t : Int} (h : Ten g t) {x : Int × Int} (hx : x ∈ legs (team g t)) : Leg g t x.1 x.2 := by
  have hs : x.1 ∈ spots (team g t) ∧ x.2 ∈ spots (team g t) := by
    unfold legs at hx
    simp only [List.mem_append, prs_mem] at hx
    unfold spots
    simp only [List.mem_append]
    rcases hx with (⟨h1, h2⟩ | ⟨h1, h2⟩) | ⟨h1, h2⟩ <;> simp [h1, h2]
  obtain ⟨h1, h2⟩ := h.spot hs.1
  obtain ⟨h3, h4⟩ := h.spot hs.2
  exact ⟨h.c, h.p, h1, h3, h4, .inl h2⟩
/-- the arrivals of a leg, tick by tick. -/
noncomputable def rowOf (g : C) (t : Int) (x : Int × Int) : List Int := tbl (Bf.arr (G g t x.1 x.2)) x.1.toNat g.s.length
noncomputable def vals (g : C) (t : Int) (i k : Nat) : List Int := ((legs (team g t)).take i).flatMap (rowOf g t) ++ (rowOf g t ((legs (team g t)).getD i (0, 0))).take k
def mxl (l : List Int) : Int := l.foldl (fun m v => if m < v then v else m) 0
noncomputable def most (g : C) (t : Int) : Int := if ((legs (team g t)).flatMap (rowOf g t)).any (fun v => decide (v < 0)) then -1 else mxl ((legs (team g t)).flatMap (rowOf g t))
noncomputable def soundR (g : C) : Int := if check g = 0 then (if (tenants g.ts g.ts.length).all (fun t => decide (0 ≤ most g t)) then 0 else 130) else check g
noncomputable def longestR (g : C) (t : Int) : Int × Int := if asked g t 0 = 0 then (if soundR g = 0 then (most g t, 0) else (0, soundR g)) else (0, asked g t 0)
def bd (m : T) (n : Int) : Int := (m.n3 + m.h.length + 1) * (4 * m.h.length + 8) * (n + m.n1 + m.n2 + 4)
noncomputable def boundR (g : C) (t : Int) : Int × Int := if (longestR g t).2 = 0 then (bd (team g t) (longestR g t).1, 0) else (0, (longestR g t).2)
theorem asked_ten {g : C} {t tick : Int} (h : asked g t tick = 0) : Ten g t := by
  unfold asked at h
  split at h
  · rename_i hc
    split at h
    · rename_i hp; exact ⟨hc, hp.1⟩
    · exact absurd h (by decide)
  · rename_i hc; exact absurd h hc
theorem mulb {a b : Int} (ha : 0 ≤ a ∧ a ≤ 1000000) (hb : 0 ≤ b ∧ b ≤ 1000000) : -9223372036854775808 ≤ a * b ∧ a * b ≤ 9223372036854775807 := by
  have h1 : 0 ≤ a * b := Int.mul_nonneg ha.1 hb.1
  have h2 : a * b ≤ 1000000 * 1000000 := Int.mul_le_mul ha.2 hb.2 hb.1 (by omega)
  omega
end Rt
namespace E
open Go Go.RowKit
end E
end Go.Proofs.Ytflkbabhbnmajaa

/- Closed facts on the program (printed by gen.py). -/
namespace Go.Proofs.Ytflkbabhbnmajaa
open Go Go.RowKit
set_option linter.unusedSimpArgs false
set_option linter.unusedVariables false
theorem bld30_0_1 (x0 : Int) (x1 : Int) (w : World) : (Instr.build 30 #[(0, .int .i64 x0), (1, .int .i64 x1)]).run Try.prog w = .ok (.agg #[.int .i64 x0, .int .i64 x1]) w := by kernel_rfl
theorem in30 : E.In Try.prog 30 (.agg #[.int .i64 0, .int .i64 0]) 2 16 := by unfold E.In; kernel_rfl
end Go.Proofs.Ytflkbabhbnmajaa

/- The reference of routes, plainly. -/
set_option linter.unusedSimpArgs false
set_option linter.unusedVariables false
namespace Go.Proofs.Ytflkbabhbnmajaa
namespace Rt
open Cf
theorem slo {g : C} (h : check g = 0) (tick : Int) : Fl.sliceOwner g.s tick = (Fl.sown g.s tick 0, 0) := Fl.owner_ok (check_zero h).2.1
theorem allows_mine {g : C} {t p tick : Int} (h : check g = 0) : allows g t p tick = (mine g t p || (aisle g p && decide (Fl.sown g.s tick 0 = t))) := by
  unfold allows mine aisle
  rw [slo h]
  by_cases h1 : owner g p = t
  · simp [h1]
  · by_cases h2 : owner g p = -2
    · rw [if_neg h1, if_pos h2, decide_eq_false h1, decide_eq_true h2]; simp
    · rw [if_neg h1, if_neg h2, decide_eq_false h1, decide_eq_false h2]; rfl
theorem sown_ph {g : C} (h : check g = 0) (tick : Int) : Fl.sown g.s ((ph g tick : Nat) : Int) 0 = Fl.sown g.s tick 0 := by
  have h1 := per_of h
  unfold Fl.sown Fl.ent
  rw [← ph_int h tick, Int.emod_emod]
/-- the places one tick later, as the reference finds them. -/
def ltf (g : C) (r : Nat → Bool) (p q : Nat) : Bool := (List.range p).any fun p' => r p' && decide (q ∈ near g p')
def ltd (g : C) (r : Nat → Bool) (p d q : Nat) : Bool := ltf g r p q || decide ((q : Int) ∈ nearTo g.a g.b (p : Int) d)
/-- .. then those that are not free are left out. -/
def lef (g : C) (r f : Nat → Bool) (i q : Nat) : Bool := ltf g r g.l.length q && (!decide (q < i) || f q)
end Rt
namespace E
open Go Go.RowKit
section
variable {P : Program} {n : Fr} {w0 : World} {F : Nat → Prop} {K : Kt} {l : Env} {H : List HP} {o : Oper}
end
end E
end Go.Proofs.Ytflkbabhbnmajaa

/- Closed facts on the program (printed by gen.py). -/
namespace Go.Proofs.Ytflkbabhbnmajaa
open Go Go.RowKit
set_option linter.unusedSimpArgs false
set_option linter.unusedVariables false
theorem nm56 : E.Nm Try.prog 56 := ⟨Try.f56, Try.func56, rfl, by kernel_rfl⟩
theorem nm57 : E.Nm Try.prog 57 := ⟨Try.f57, Try.func57, rfl, by kernel_rfl⟩
end Go.Proofs.Ytflkbabhbnmajaa

/- Walks (printed by gen.py). -/
namespace Go.Proofs.Ytflkbabhbnmajaa
open Go Go.RowKit
set_option linter.unusedSimpArgs false
set_option linter.unusedVariables false

set_option maxRecDepth 100000 in
theorem GtF_ok (a b : Int) (A : Option Addr) (c : Nat) (l : List UInt8) (w0 : World) :
    Calls Try.prog 56 #[.agg #[.int .i64 a, .int .i64 b, .slice A l.length c]] w0 (E.Post w0 (E.Old w0) fun v Hn => ∃ b : Bool, v = .bool b ∧ Hn = []) := by
  refine E.calls_of (vs := [.agg #[.int .i64 a, .int .i64 b, .slice A l.length c]]) (H := []) Try.func56 Try.ntmps56 rfl rfl (E.HA.start w0) ?_
  refine E.CW.seq ?_
  refine E.CW.region ?_
  refine E.OW.box rfl rfl rfl rfl rfl rfl (fun B1 => ?_)
  refine E.OW.pure rfl rfl rfl (E.PV.assign rfl rfl) ?_
  refine E.OW.nil ?_
  refine E.then_n ?_
  refine E.CW.seq ?_
  refine E.CW.region ?_
  refine E.OW.pure rfl rfl rfl (E.PV.fieldAddr fa24_2 rfl rfl) ?_
  refine E.OW.pure rfl rfl rfl (E.PV.load (i := 0) na22 rfl rfl rfl rfl) ?_
  refine E.OW.pure rfl rfl rfl (E.PV.len Try.underlying22 rfl rfl) ?_
  refine E.OW.pure rfl rfl rfl (E.PV.gtr rfl rfl rfl) ?_
  refine E.OW.pure rfl rfl rfl (E.PV.assign rfl rfl) ?_
  refine E.OW.nil ?_
  refine E.then_n ?_
  refine E.CW.ret ?_
  refine E.KR.one [] Try.results56 rfl rfl ?_
  exact ⟨_, rfl, rfl⟩

set_option maxRecDepth 100000 in
theorem GtT_ok (m : E.Tm) (w0 : World) :
    Calls Try.prog 57 #[m.v] w0 (E.Post w0 (E.Old w0) fun v Hn => ∃ b : Bool, v = .bool b ∧ Hn = []) := by
  refine E.calls_of (vs := [m.v]) (H := []) Try.func57 Try.ntmps57 rfl rfl (E.HA.start w0) ?_
  refine E.CW.seq ?_
  refine E.CW.region ?_
  refine E.OW.box rfl rfl rfl rfl rfl rfl (fun B1 => ?_)
  refine E.OW.pure rfl rfl rfl (E.PV.assign rfl rfl) ?_
  refine E.OW.nil ?_
  refine E.then_n ?_
  refine E.CW.seq ?_
  refine E.CW.region ?_
  refine E.OW.pure rfl rfl rfl (E.PV.fieldAddr fa79_0 rfl rfl) ?_
  refine E.OW.pure rfl rfl rfl (E.PV.load (i := 0) na31 rfl rfl rfl rfl) ?_
  refine E.OW.pure rfl rfl rfl (E.PV.len Try.underlying31 rfl rfl) ?_
  refine E.OW.pure rfl rfl rfl (E.PV.gtr rfl rfl rfl) ?_
  refine E.OW.pure rfl rfl rfl (E.PV.move rfl rfl) ?_
  all_goals (refine E.OW.split 7 rfl (fun hc => ?_) (fun hc => ?_) <;> (try simp only [E.b0, E.b1, E.b2, E.b3, E.b4, E.b5, E.b6, E.b7, E.b8, E.b9, E.b10, E.b11, E.b12, E.b13, E.b14, E.b15, E.b16, E.b17, E.b18, E.b19, E.b20, reduceCtorEq] at hc) <;> (try (exfalso; first | assumption | contradiction | omega)))
  all_goals (first | (refine E.OW.off rfl rfl rfl ?_) | (refine E.OW.pure rfl rfl rfl (E.PV.fieldAddr fa79_1 rfl rfl) ?_))
  all_goals (first | (refine E.OW.off rfl rfl rfl ?_) | (refine E.OW.pure rfl rfl rfl (E.PV.load (i := 0) na31 rfl rfl rfl rfl) ?_))
  all_goals (first | (refine E.OW.off rfl rfl rfl ?_) | (refine E.OW.pure rfl rfl rfl (E.PV.len Try.underlying31 rfl rfl) ?_))
  all_goals (first | (refine E.OW.off rfl rfl rfl ?_) | (refine E.OW.pure rfl rfl rfl (E.PV.gtr rfl rfl rfl) ?_))
  all_goals (first | (refine E.OW.pure rfl rfl rfl (E.PV.pick_t rfl rfl rfl) ?_) | (refine E.OW.pure rfl rfl rfl (E.PV.pick_f rfl rfl rfl) ?_))
  all_goals (refine E.OW.pure rfl rfl rfl (E.PV.move rfl rfl) ?_)
  all_goals (first | (refine E.OW.put 13 (.bool true) (v := .bool true) rfl rfl ?_) | (refine E.OW.split 13 rfl (fun hc => ?_) (fun hc => ?_) <;> (try simp only [E.b0, E.b1, E.b2, E.b3, E.b4, E.b5, E.b6, E.b7, E.b8, E.b9, E.b10, E.b11, E.b12, E.b13, E.b14, E.b15, E.b16, E.b17, E.b18, E.b19, E.b20, reduceCtorEq] at hc) <;> (try (exfalso; first | assumption | contradiction | omega))))
  all_goals (first | (refine E.OW.off rfl rfl rfl ?_) | (refine E.OW.pure rfl rfl rfl (E.PV.fieldAddr fa79_2 rfl rfl) ?_))
  all_goals (first | (refine E.OW.off rfl rfl rfl ?_) | (refine E.OW.pure rfl rfl rfl (E.PV.load (i := 0) na31 rfl rfl rfl rfl) ?_))
  all_goals (first | (refine E.OW.off rfl rfl rfl ?_) | (refine E.OW.pure rfl rfl rfl (E.PV.len Try.underlying31 rfl rfl) ?_))
  all_goals (first | (refine E.OW.off rfl rfl rfl ?_) | (refine E.OW.pure rfl rfl rfl (E.PV.gtr rfl rfl rfl) ?_))
  all_goals (first | (refine E.OW.pure rfl rfl rfl (E.PV.pick_t rfl rfl rfl) ?_) | (refine E.OW.pure rfl rfl rfl (E.PV.pick_f rfl rfl rfl) ?_))
  all_goals (refine E.OW.pure rfl rfl rfl (E.PV.assign rfl rfl) ?_)
  all_goals (
    refine E.OW.nil ?_
    refine E.then_n ?_
    refine E.CW.ret ?_
    refine E.KR.one [] Try.results57 rfl rfl ?_
    exact ⟨_, rfl, rfl⟩)

set_option maxRecDepth 100000 in
theorem Gt_ok (g : E.Cfg) (w0 : World) (hg : g.rd w0 (E.Old w0)) (hgf : g.q.fit) :
    Calls Try.prog 19 #[g.v] w0 (E.Post w0 (E.Old w0) fun v Hn => ∃ b : Bool, v = .bool b ∧ Hn = []) := by
  obtain ⟨hX1, hX2, hX3, hX4⟩ := id hg
  have hgl := E.Cfg.fit_len hgf
  refine E.calls_of (vs := [g.v]) (H := []) Try.func19 Try.ntmps19 rfl rfl (E.HA.start w0) ?_
  refine E.CW.seq ?_
  refine E.CW.region ?_
  refine E.OW.box rfl rfl rfl rfl rfl rfl (fun B1 => ?_)
  refine E.OW.pure rfl rfl rfl (E.PV.assign rfl rfl) ?_
  refine E.OW.nil ?_
  refine E.then_n ?_
  refine E.CW.seq ?_
  refine E.CW.seq ?_
  refine E.CW.region ?_
  refine E.OW.pure rfl rfl rfl (E.PV.fieldAddr fa28_0 rfl rfl) ?_
  refine E.OW.pure rfl rfl rfl (E.PV.loads (i := 0) is24 rfl rfl rfl rfl) ?_
  (refine E.OW.call nm56 rfl rfl rfl rfl rfl rfl _ (fun w hw => GtF_ok _ _ _ _ _ w) ?_; rintro _ _ ⟨bF, rfl, rfl⟩)
  refine E.OW.pure rfl rfl rfl (E.PV.move rfl rfl) ?_
  all_goals (refine E.OW.split 7 rfl (fun hc => ?_) (fun hc => ?_) <;> (try simp only [E.b0, E.b1, E.b2, E.b3, E.b4, E.b5, E.b6, E.b7, E.b8, E.b9, E.b10, E.b11, E.b12, E.b13, E.b14, E.b15, E.b16, E.b17, E.b18, E.b19, E.b20, reduceCtorEq] at hc) <;> (try (exfalso; first | assumption | contradiction | omega)))
  all_goals (first | (refine E.OW.off rfl rfl rfl ?_) | (refine E.OW.pure rfl rfl rfl (E.PV.fieldAddr fa28_1 rfl rfl) ?_))
  all_goals (first | (refine E.OW.off rfl rfl rfl ?_) | (refine E.OW.pure rfl rfl rfl (E.PV.load (i := 0) na22 rfl rfl rfl rfl) ?_))
  all_goals (first | (refine E.OW.off rfl rfl rfl ?_) | (refine E.OW.pure rfl rfl rfl (E.PV.len Try.underlying22 rfl rfl) ?_))
  all_goals (first | (refine E.OW.off rfl rfl rfl ?_) | (refine E.OW.pure rfl rfl rfl (E.PV.gtr rfl rfl rfl) ?_))
  all_goals (first | (refine E.OW.pure rfl rfl rfl (E.PV.pick_t rfl rfl rfl) ?_) | (refine E.OW.pure rfl rfl rfl (E.PV.pick_f rfl rfl rfl) ?_))
  all_goals (refine E.OW.pure rfl rfl rfl (E.PV.move rfl rfl) ?_)
  all_goals (first | (refine E.OW.put 13 (.bool true) (v := .bool true) rfl rfl ?_) | (refine E.OW.split 13 rfl (fun hc => ?_) (fun hc => ?_) <;> (try simp only [E.b0, E.b1, E.b2, E.b3, E.b4, E.b5, E.b6, E.b7, E.b8, E.b9, E.b10, E.b11, E.b12, E.b13, E.b14, E.b15, E.b16, E.b17, E.b18, E.b19, E.b20, reduceCtorEq] at hc) <;> (try (exfalso; first | assumption | contradiction | omega))))
  all_goals (first | (refine E.OW.off rfl rfl rfl ?_) | (refine E.OW.pure rfl rfl rfl (E.PV.fieldAddr fa28_2 rfl rfl) ?_))
  all_goals (first | (refine E.OW.off rfl rfl rfl ?_) | (refine E.OW.pure rfl rfl rfl (E.PV.load (i := 0) na25 rfl rfl rfl rfl) ?_))
  all_goals (first | (refine E.OW.off rfl rfl rfl ?_) | (refine E.OW.pure rfl rfl rfl (E.PV.len Try.underlying25 rfl rfl) ?_))
  all_goals (first | (refine E.OW.off rfl rfl rfl ?_) | (refine E.OW.pure rfl rfl rfl (E.PV.gtr rfl rfl rfl) ?_))
  all_goals (first | (refine E.OW.pure rfl rfl rfl (E.PV.pick_t rfl rfl rfl) ?_) | (refine E.OW.pure rfl rfl rfl (E.PV.pick_f rfl rfl rfl) ?_))
  all_goals (
    refine E.OW.nil ?_
    refine E.then_n ?_
    refine E.CW.cond rfl (fun hc => ?_) (fun hc => ?_)
    · simp only [E.b0, E.b1, E.b2, E.b3, E.b4, E.b5, E.b6, E.b7, E.b8, E.b9, E.b10, E.b11, E.b12, E.b13, E.b14, E.b15, E.b16, E.b17, E.b18, E.b19, E.b20, reduceCtorEq] at hc
      all_goals (
        refine E.CW.seq ?_
        refine E.CW.region ?_
        refine E.OW.pure rfl rfl rfl (E.PV.assign rfl rfl) ?_
        refine E.OW.nil ?_
        refine E.then_n ?_
        refine E.CW.ret ?_
        refine E.then_ret ?_
        refine E.KR.one [] Try.results19 rfl rfl ?_
        exact ⟨_, rfl, rfl⟩)
    · first | ((cases hc; done)) | (simp only [E.b0, E.b1, E.b2, E.b3, E.b4, E.b5, E.b6, E.b7, E.b8, E.b9, E.b10, E.b11, E.b12, E.b13, E.b14, E.b15, E.b16, E.b17, E.b18, E.b19, E.b20, reduceCtorEq] at hc)
      all_goals (
        refine E.CW.skip ?_
        refine E.then_n ?_
        refine E.CW.seq ?_
        refine E.CW.seq ?_
        refine E.CW.region ?_
        refine E.OW.pure rfl rfl rfl (E.PV.assign rfl rfl) ?_
        refine E.OW.nil ?_
        refine E.then_n ?_
        refine E.CW.block ?_
        refine E.CW.loopk [1] 0 rfl rfl (fun mm mods Hm => ∃ k : Nat, mm = g.ts.length - k ∧ mods = [(3, .int .i64 k)] ∧ Hm = [] ∧ k ≤ g.ts.length) (g.ts.length) ?_ ?_
        · exact ⟨[(3, _)], (by repeat (first | exact E.cov_nil | refine ⟨rfl, ?_⟩)), 0, rfl, rfl, rfl, by omega⟩
        · rintro _ _ _ ⟨k, rfl, rfl, rfl, hk⟩
          refine E.CW.seq ?_
          refine E.CW.seq ?_
          refine E.CW.region ?_
          refine E.OW.pure rfl rfl rfl (E.PV.move rfl rfl) ?_
          refine E.OW.pure rfl rfl rfl (E.PV.fieldAddr fa28_2 rfl rfl) ?_
          refine E.OW.pure rfl rfl rfl (E.PV.load (i := 0) na25 rfl rfl rfl rfl) ?_
          refine E.OW.pure rfl rfl rfl (E.PV.len Try.underlying25 rfl rfl) ?_
          refine E.OW.pure rfl rfl rfl (E.PV.lss rfl rfl rfl) ?_
          refine E.OW.nil ?_
          refine E.then_n ?_
          refine E.CW.cond rfl (fun hc => ?_) (fun hc => ?_)
          · simp only [E.b0, E.b1, E.b2, E.b3, E.b4, E.b5, E.b6, E.b7, E.b8, E.b9, E.b10, E.b11, E.b12, E.b13, E.b14, E.b15, E.b16, E.b17, E.b18, E.b19, E.b20, reduceCtorEq] at hc
            all_goals (
              refine E.CW.skip ?_
              refine E.then_n ?_
              refine E.CW.seq ?_
              refine E.CW.block ?_
              refine E.CW.seq ?_
              refine E.CW.region ?_
              refine E.OW.pure rfl rfl rfl (E.PV.fieldAddr fa28_2 rfl rfl) ?_
              refine E.OW.pure rfl rfl rfl (E.PV.load (i := 0) na25 rfl rfl rfl rfl) ?_
              refine E.OW.pure rfl rfl rfl (E.PV.move rfl rfl) ?_
              refine E.OW.pure rfl rfl rfl (E.PV.indexAddr (E.rdc hX3) Try.underlying25 in79 rfl rfl rfl rfl ?_ ?_ (by decide)) ?_; (focus (first | (simp; done) | (simp; omega))); (focus (omega))
              refine E.OW.pure rfl rfl rfl (E.PV.load_tm (E.rdc hX3) is79 rfl rfl ?_) ?_; (focus (omega))
              (refine E.OW.call nm57 rfl rfl rfl rfl rfl rfl _ (fun w hw => GtT_ok _ w) ?_; rintro _ _ ⟨bT, rfl, rfl⟩)
              refine E.OW.nil ?_
              refine E.then_n ?_
              refine E.CW.cond rfl (fun hc => ?_) (fun hc => ?_)
              · skip
                all_goals (
                  refine E.CW.seq ?_
                  refine E.CW.region ?_
                  refine E.OW.pure rfl rfl rfl (E.PV.assign rfl rfl) ?_
                  refine E.OW.nil ?_
                  refine E.then_n ?_
                  refine E.CW.ret ?_
                  refine E.blk_ret ?_
                  refine E.then_ret ?_
                  refine E.then_ret ?_
                  refine E.blk_ret ?_
                  refine E.then_ret ?_
                  refine E.KR.one [] Try.results19 rfl rfl ?_
                  exact ⟨_, rfl, rfl⟩)
              · skip
                all_goals (
                  refine E.CW.skip ?_
                  refine E.blk_n ?_
                  refine E.then_n ?_
                  refine E.CW.region ?_
                  refine E.OW.pure rfl rfl rfl (E.PV.move rfl rfl) ?_
                  refine E.OW.pure rfl rfl rfl (E.PV.add_i64 rfl rfl rfl ?_) ?_; (focus (omega))
                  refine E.OW.pure rfl rfl rfl (E.PV.assign rfl rfl) ?_
                  refine E.OW.nil ?_
                  refine E.then_nf ?_
                  refine ⟨_, [(3, _)], [0], _, ?_, by repeat (first | exact E.cov_nil | refine ⟨rfl, ?_⟩), rfl, k + 1, rfl, rfl, rfl, by omega⟩
                  omega))
          · simp only [E.b0, E.b1, E.b2, E.b3, E.b4, E.b5, E.b6, E.b7, E.b8, E.b9, E.b10, E.b11, E.b12, E.b13, E.b14, E.b15, E.b16, E.b17, E.b18, E.b19, E.b20, reduceCtorEq] at hc
            all_goals (
              refine E.CW.exit ?_
              refine E.then_x ?_
              refine E.then_x ?_
              refine E.blk_eq ?_
              refine E.then_n ?_
              refine E.CW.seq ?_
              refine E.CW.region ?_
              refine E.OW.pure rfl rfl rfl (E.PV.assign rfl rfl) ?_
              refine E.OW.nil ?_
              refine E.then_n ?_
              refine E.CW.ret ?_
              refine E.KR.one [] Try.results19 rfl rfl ?_
              exact ⟨_, rfl, rfl⟩)))

end Go.Proofs.Ytflkbabhbnmajaa

/- Lengths of the lists of routes, plainly. -/
set_option linter.unusedSimpArgs false
set_option linter.unusedVariables false
namespace Go.Proofs.Ytflkbabhbnmajaa
namespace Rt
open Cf
theorem tableR_len (g : C) (t a b : Int) : (tableR g t a b).1.length ≤ g.s.length := by
  unfold tableR
  split
  · simp
  · exact Nat.zero_le _
theorem routeR_len (g : C) (t a b tick : Int) : (routeR g t a b tick).1.length ≤ 1025 := by
  unfold routeR
  split
  · rename_i h
    split
    · exact Nat.zero_le _
    · have := arr_le (tick := tick) (leg_of h).1
      show (rts g t a b tick).length ≤ 1025
      unfold rts
      rw [List.length_map, Bf.rt_len]
      omega
  · exact Nat.zero_le _
end Rt
end Go.Proofs.Ytflkbabhbnmajaa

/- Shortest walks, plainly: waiting, routes as walks, the rest of a route. No program in sight. -/
set_option linter.unusedSimpArgs false
set_option linter.unusedVariables false
namespace Go.Proofs.Ytflkbabhbnmajaa
namespace Bf
theorem W_mod {x : G} {m k p : Nat} : W x m (k % x.K) p ↔ W x m k p := by
  cases m with
  | zero => exact Iff.rfl
  | succ m => simp only [W, Nat.mod_add_mod]
/-- who may always be at a place may wait there. -/
theorem W_wait {x : G} {a m : Nat} (hs : a ∈ x.nr a) (ha : ∀ k, k < x.K → x.al k a = true) (K0 : 0 < x.K) : ∀ j k, W x m ((k + j) % x.K) a → W x (m + j) k a := by
  intro j
  induction j with
  | zero => intro k h; exact W_mod.1 h
  | succ j ih =>
    intro k h
    refine ⟨a, hs, ha _ (Nat.mod_lt _ K0), ih ((k + 1) % x.K) ?_⟩
    rw [Nat.mod_add_mod, show k + 1 + j = k + (j + 1) by omega]; exact h
theorem arr_min {x : G} (ok : x.ok) {k p m : Nat} (hk : k < x.K) (hp : p < x.n) (hc : x.cell p = true) (h : W x m k p) : 0 ≤ arr x k p ∧ arr x k p ≤ m := by
  rcases arr_ar ok hk hp hc with ⟨_, h2⟩ | ⟨h1, _, _, h3⟩
  · exact absurd h (h2 m)
  · exact ⟨h1, h3 m h⟩
theorem arr_W {x : G} (ok : x.ok) {k p : Nat} (hk : k < x.K) (hp : p < x.n) (hc : x.cell p = true) (h : 0 ≤ arr x k p) : W x (arr x k p).toNat k p := by
  rcases arr_ar ok hk hp hc with ⟨h1, _⟩ | ⟨_, _, h2, _⟩
  · omega
  · exact h2
theorem arr_no {x : G} (ok : x.ok) {k p : Nat} (hk : k < x.K) (hp : p < x.n) (hc : x.cell p = true) (h : arr x k p < 0) : arr x k p = -1 ∧ ∀ m, ¬ W x m k p := by
  rcases arr_ar ok hk hp hc with ⟨h1, h2⟩ | ⟨h1, _⟩
  · exact ⟨h1, h2⟩
  · omega
theorem arr_is {x : G} (ok : x.ok) {k p m : Nat} (hk : k < x.K) (hp : p < x.n) (hc : x.cell p = true) (h : W x m k p) (hm : ∀ j, W x j k p → m ≤ j) : arr x k p = m := by
  have h1 := arr_min ok hk hp hc h
  have h2 := hm _ (arr_W ok hk hp hc h1.1)
  omega
/-- a route is a walk. -/
theorem rt_walk {x : G} (ok : x.ok) : ∀ m k p : Nat, k < x.K → p < x.n → x.cell p = true → arr x k p = (m : Int) →
    (∀ i, i < m → (rt x m k p).getD (i + 1) 0 ∈ x.nr ((rt x m k p).getD i 0) ∧ x.al ((k + i + 1) % x.K) ((rt x m k p).getD (i + 1) 0) = true) ∧ (rt x m k p).getD m 0 = x.goal ∧ (∀ i, i ≤ m → (rt x m k p).getD i 0 < x.n) := by
  intro m
  induction m with
  | zero =>
    intro k p hk hp hc h
    have hw := arr_W ok hk hp hc (by omega)
    rw [h] at hw
    refine ⟨fun i hi => by omega, hw, fun i hi => ?_⟩
    have : i = 0 := by omega
    subst this
    exact hp
  | succ m ih =>
    intro k p hk hp hc h
    obtain ⟨h1, h2, h3⟩ := nx_ok ok hk hp hc (m := m) (by rw [h]; rfl)
    have hk1 : (k + 1) % x.K < x.K := Nat.mod_lt _ ok.K0
    obtain ⟨g1, g2, g3⟩ := ih _ _ hk1 (ok.nrlt _ _ hp h1) (ok.alc _ _ h2) h3
    obtain ⟨r, hr⟩ := rt_head x m ((k + 1) % x.K) (nx x ((k + 1) % x.K) p ((m : Int) + 1))
    refine ⟨fun i hi => ?_, ?_, fun i hi => ?_⟩
    · cases i with
      | zero =>
        simp only [rt, hr, List.getD_cons_zero, List.getD_cons_succ, Nat.add_zero]
        exact ⟨h1, h2⟩
      | succ i =>
        have h4 := g1 i (by omega)
        simp only [rt, List.getD_cons_succ]
        refine ⟨h4.1, ?_⟩
        have h5 := h4.2
        rw [show ((k + 1) % x.K + i + 1) = (k + 1) % x.K + (i + 1) by omega, Nat.mod_add_mod] at h5
        rw [show k + (i + 1) + 1 = k + 1 + (i + 1) by omega]; exact h5
    · simp only [rt, List.getD_cons_succ]; exact g2
    · cases i with
      | zero => exact hp
      | succ i => simp only [rt, List.getD_cons_succ]; exact g3 i (by omega)
/-! ### Two graphs that differ at one place alone -/
structure Sub (x y : G) (a : Nat) : Prop where
  n : y.n = x.n
  K : y.K = x.K
  nr : ∀ p, y.nr p = x.nr p
  goal : y.goal = x.goal
  al : ∀ k q, y.al k q = true → x.al k q = true
  al' : ∀ k q, q ≠ a → x.al k q = true → y.al k q = true
def G.to (x : G) (a : Nat) : G := { x with goal := a }
/-- no walk of m steps to the goal comes to a. -/
def Av (x : G) (a m k p : Nat) : Prop := ∀ j, j ≤ m → W (x.to a) j k p → ¬ W x (m - j) ((k + j) % x.K) a
theorem Av.next {x : G} {a m k p q : Nat} (h : Av x a (m + 1) k p) (h1 : q ∈ x.nr p) (h2 : x.al ((k + 1) % x.K) q = true) : Av x a m ((k + 1) % x.K) q := by
  intro j hj h3 h4
  refine h (j + 1) (by omega) ⟨q, h1, h2, h3⟩ ?_
  rw [Nat.mod_add_mod] at h4
  rw [show m + 1 - (j + 1) = m - j by omega, show k + (j + 1) = k + 1 + j by omega]; exact h4
theorem Av.ne {x : G} {a m k p : Nat} (h : Av x a m k p) (hw : W x m k p) : p ≠ a := by
  rintro rfl
  exact h 0 (Nat.zero_le _) rfl (W_mod.2 hw)
theorem Sub.wk {x y : G} {a : Nat} (s : Sub x y a) : ∀ {m k p}, W y m k p → W x m k p := by
  intro m
  induction m with
  | zero => intro k p h; exact (show p = y.goal from h).trans s.goal
  | succ m ih =>
    intro k p ⟨q, h1, h2, h3⟩
    rw [s.nr] at h1
    rw [s.K] at h2 h3
    exact ⟨q, h1, s.al _ _ h2, ih h3⟩
theorem Sub.wk' {x y : G} {a : Nat} (s : Sub x y a) : ∀ {m k p}, Av x a m k p → W x m k p → W y m k p := by
  intro m
  induction m with
  | zero => intro k p _ h; exact (show p = x.goal from h).trans s.goal.symm
  | succ m ih =>
    intro k p ha ⟨q, h1, h2, h3⟩
    have ha1 := ha.next h1 h2
    refine ⟨q, by rw [s.nr]; exact h1, by rw [s.K]; exact s.al' _ _ (ha1.ne h3) h2, by rw [s.K]; exact ih ha1 h3⟩
theorem Sub.arv {x y : G} {a : Nat} (s : Sub x y a) (okx : x.ok) (oky : y.ok) {m k p : Nat} (hk : k < x.K) (hp : p < x.n) (hc : x.cell p = true) (hd : y.cell p = true) (h : arr x k p = (m : Int)) (ha : Av x a m k p) : arr y k p = (m : Int) := by
  have hw := arr_W okx hk hp hc (by omega)
  rw [h, Int.toNat_natCast] at hw
  refine arr_is oky (by rw [s.K]; exact hk) (by rw [s.n]; exact hp) hd (s.wk' ha hw) fun j hj => ?_
  have := (arr_min okx hk hp hc (s.wk hj)).2
  omega
theorem find_congr {α : Type} {f g : α → Bool} : ∀ {l : List α}, (∀ q, q ∈ l → f q = g q) → l.find? f = l.find? g := by
  intro l
  induction l with
  | nil => intro _; rfl
  | cons b l ih =>
    intro h
    rw [List.find?_cons, List.find?_cons, h b List.mem_cons_self, ih fun q hq => h q (List.mem_cons_of_mem _ hq)]
theorem Sub.route {x y : G} {a : Nat} (s : Sub x y a) (okx : x.ok) (oky : y.ok) : ∀ {m k p : Nat}, k < x.K → p < x.n → x.cell p = true → arr x k p = (m : Int) → Av x a m k p → rt y m k p = rt x m k p := by
  intro m
  induction m with
  | zero => intro k p _ _ _ _ _; rfl
  | succ m ih =>
    intro k p hk hp hc h ha
    have hk1 : (k + 1) % x.K < x.K := Nat.mod_lt _ okx.K0
    have hn : nx y ((k + 1) % x.K) p ((m : Int) + 1) = nx x ((k + 1) % x.K) p ((m : Int) + 1) := by
      unfold nx
      rw [s.nr]
      congr 1
      apply find_congr
      intro q hq
      have hqn := okx.nrlt _ _ hp hq
      rw [Bool.eq_iff_iff]
      simp only [Bool.and_eq_true, decide_eq_true_eq]
      constructor
      · rintro ⟨h1, h2⟩
        have h3 := s.al _ _ h1
        refine ⟨h3, ?_⟩
        have hw := arr_W oky (by rw [s.K]; exact hk1) (by rw [s.n]; exact hqn) (oky.alc _ _ h1) (by omega)
        rw [h2, show ((m : Int) + 1 - 1).toNat = m by omega] at hw
        have h4 := arr_min okx hk1 hqn (okx.alc _ _ h3) (s.wk hw)
        have h5 := arr_min (m := (arr x ((k + 1) % x.K) q).toNat + 1) okx hk hp hc ⟨q, hq, h3, arr_W okx hk1 hqn (okx.alc _ _ h3) h4.1⟩
        omega
      · rintro ⟨h1, h2⟩
        have hw := arr_W okx hk1 hqn (okx.alc _ _ h1) (by omega)
        rw [h2, show ((m : Int) + 1 - 1).toNat = m by omega] at hw
        have ha1 := ha.next hq h1
        have h3 := s.al' _ _ (ha1.ne hw) h1
        refine ⟨h3, ?_⟩
        have := s.arv okx oky hk1 hqn (okx.alc _ _ h1) (oky.alc _ _ h3) (by omega) ha1
        omega
    obtain ⟨h1, h2, h3⟩ := nx_ok okx hk hp hc (m := m) (by rw [h]; rfl)
    show p :: rt y m ((k + 1) % y.K) (nx y ((k + 1) % y.K) p ((m : Int) + 1)) = p :: rt x m ((k + 1) % x.K) (nx x ((k + 1) % x.K) p ((m : Int) + 1))
    rw [s.K, hn, ih hk1 (okx.nrlt _ _ hp h1) (okx.alc _ _ h2) h3 (ha.next h1 h2)]
/-- a route that leaves a place of one's own at once does not come back. -/
theorem leave {x : G} (ok : x.ok) {a k m : Nat} (hk : k < x.K) (hp : a < x.n) (hc : x.cell a = true) {r : List Nat} (hs : x.nr a = a :: r) (ha : ∀ k, k < x.K → x.al k a = true) (h : arr x k a = (m : Int) + 1) (hne : nx x ((k + 1) % x.K) a ((m : Int) + 1) ≠ a) :
    Av x a m ((k + 1) % x.K) (nx x ((k + 1) % x.K) a ((m : Int) + 1)) := by
  intro j hj _ h2
  have hk1 : (k + 1) % x.K < x.K := Nat.mod_lt _ ok.K0
  have hsa : a ∈ x.nr a := by rw [hs]; exact List.mem_cons_self
  have h3 := W_wait hsa ha ok.K0 j ((k + 1) % x.K) h2
  rw [show m - j + j = m by omega] at h3
  have h4 := arr_min ok hk1 hp hc h3
  have h5 := arr_min (m := (arr x ((k + 1) % x.K) a).toNat + 1) ok hk hp hc ⟨a, hsa, ha _ hk1, arr_W ok hk1 hp hc h4.1⟩
  apply hne
  unfold nx
  have : (x.al ((k + 1) % x.K) a && decide (arr x ((k + 1) % x.K) a = (m : Int) + 1 - 1)) = true := by
    rw [ha _ hk1, Bool.true_and, decide_eq_true_eq]; omega
  rw [hs, List.find?_cons, this]
  rfl
theorem rt_tail {x : G} {m k p : Nat} : (rt x (m + 1) k p).tail = rt x m ((k + 1) % x.K) (nx x ((k + 1) % x.K) p ((m : Int) + 1)) := rfl
theorem rt_one {x : G} {m k p : Nat} : (rt x (m + 1) k p).getD 1 0 = nx x ((k + 1) % x.K) p ((m : Int) + 1) := by
  obtain ⟨r, hr⟩ := rt_head x m ((k + 1) % x.K) (nx x ((k + 1) % x.K) p ((m : Int) + 1))
  simp only [rt, hr, List.getD_cons_succ, List.getD_cons_zero]
/-! ### Who starts at a place of one's own -/
theorem wait_one {x : G} (ok : x.ok) {a k : Nat} (hk : k < x.K) (hp : a < x.n) (hc : x.cell a = true) (hs : a ∈ x.nr a) (ha : ∀ k, k < x.K → x.al k a = true) :
    (arr x k a < 0 ↔ arr x ((k + 1) % x.K) a < 0) ∧ (0 ≤ arr x k a → arr x k a ≤ arr x ((k + 1) % x.K) a + 1 ∧ arr x ((k + 1) % x.K) a ≤ arr x k a + x.K - 1) := by
  have hk1 : (k + 1) % x.K < x.K := Nat.mod_lt _ ok.K0
  have K0 := ok.K0
  have f1 : 0 ≤ arr x ((k + 1) % x.K) a → 0 ≤ arr x k a ∧ arr x k a ≤ arr x ((k + 1) % x.K) a + 1 := fun h => by
    have h1 := W_wait hs ha ok.K0 1 k (arr_W ok hk1 hp hc h)
    have h2 := arr_min ok hk hp hc h1
    omega
  have f2 : 0 ≤ arr x k a → 0 ≤ arr x ((k + 1) % x.K) a ∧ arr x ((k + 1) % x.K) a ≤ arr x k a + x.K - 1 := fun h => by
    have e : ((k + 1) % x.K + (x.K - 1)) % x.K = k := by
      rw [Nat.mod_add_mod, show k + 1 + (x.K - 1) = k + x.K by omega, Nat.add_mod_right, Nat.mod_eq_of_lt hk]
    have h1 := W_wait (m := (arr x k a).toNat) hs ha ok.K0 (x.K - 1) ((k + 1) % x.K) (by rw [e]; exact arr_W ok hk hp hc h)
    have h2 := arr_min ok hk1 hp hc h1
    omega
  refine ⟨⟨fun h => ?_, fun h => ?_⟩, fun h => ?_⟩
  · exact Int.not_le.1 fun h1 => by have := (f1 h1).1; omega
  · exact Int.not_le.1 fun h1 => by have := (f2 h1).1; omega
  · exact ⟨(f1 (f2 h).1).2, (f2 h).2⟩
/-! ### A table of arrivals that is right step by step -/
def good (x : G) (D : Nat → Nat → Int) : Bool :=
  (List.range x.K).all fun k => (List.range x.n).all fun p => !x.cell p ||
    (if p = x.goal then decide (D k p = 0)
     else (decide (D k p = -1) || (decide (1 ≤ D k p) && (x.nr p).any fun q => x.al ((k + 1) % x.K) q && decide (D ((k + 1) % x.K) q = D k p - 1))) &&
       (x.nr p).all fun q => !x.al ((k + 1) % x.K) q || decide (D ((k + 1) % x.K) q = -1) || (decide (0 ≤ D k p) && decide (D k p ≤ D ((k + 1) % x.K) q + 1)))
theorem good_at {x : G} {D : Nat → Nat → Int} (h : good x D = true) {k p : Nat} (hk : k < x.K) (hp : p < x.n) (hc : x.cell p = true) :
    (p = x.goal ∧ D k p = 0) ∨ (p ≠ x.goal ∧ (D k p = -1 ∨ (1 ≤ D k p ∧ ∃ q, q ∈ x.nr p ∧ x.al ((k + 1) % x.K) q = true ∧ D ((k + 1) % x.K) q = D k p - 1)) ∧
      ∀ q, q ∈ x.nr p → x.al ((k + 1) % x.K) q = true → D ((k + 1) % x.K) q = -1 ∨ (0 ≤ D k p ∧ D k p ≤ D ((k + 1) % x.K) q + 1)) := by
  have h1 := List.all_eq_true.1 (List.all_eq_true.1 h k (List.mem_range.2 hk)) p (List.mem_range.2 hp)
  rw [hc, Bool.not_true, Bool.false_or] at h1
  by_cases hg : p = x.goal
  · rw [if_pos hg] at h1; exact .inl ⟨hg, of_decide_eq_true h1⟩
  · rw [if_neg hg] at h1
    simp only [Bool.and_eq_true, Bool.or_eq_true, decide_eq_true_eq, List.any_eq_true, List.all_eq_true, Bool.not_eq_true'] at h1
    refine .inr ⟨hg, h1.1, fun q h2 h3 => ?_⟩
    rcases h1.2 q h2 with (h4 | h4) | h4
    · rw [h3] at h4; cases h4
    · exact .inl h4
    · exact .inr h4
theorem good_arr {x : G} (ok : x.ok) {D : Nat → Nat → Int} (h : good x D = true) {k p : Nat} (hk : k < x.K) (hp : p < x.n) (hc : x.cell p = true) : arr x k p = D k p := by
  have h1 : ∀ m k p : Nat, k < x.K → p < x.n → x.cell p = true → D k p = (m : Int) → W x m k p := by
    intro m
    induction m with
    | zero =>
      intro k p hk hp hc hd
      rcases good_at h hk hp hc with h2 | ⟨_, h2 | h2, _⟩
      · exact h2.1
      · omega
      · omega
    | succ m ih =>
      intro k p hk hp hc hd
      rcases good_at h hk hp hc with h2 | ⟨_, h2 | ⟨_, q, h3, h4, h5⟩, _⟩
      · omega
      · omega
      · exact ⟨q, h3, h4, ih _ _ (Nat.mod_lt _ ok.K0) (ok.nrlt _ _ hp h3) (ok.alc _ _ h4) (by omega)⟩
  have h2 : ∀ m k p : Nat, k < x.K → p < x.n → x.cell p = true → W x m k p → 0 ≤ D k p ∧ D k p ≤ m := by
    intro m
    induction m with
    | zero =>
      intro k p hk hp hc hw
      rcases good_at h hk hp hc with h3 | ⟨h3, _⟩
      · omega
      · exact absurd hw h3
    | succ m ih =>
      intro k p hk hp hc ⟨q, h3, h4, h5⟩
      have h6 := ih _ _ (Nat.mod_lt _ ok.K0) (ok.nrlt _ _ hp h3) (ok.alc _ _ h4) h5
      rcases good_at h hk hp hc with h7 | ⟨_, _, h7⟩
      · omega
      · have := h7 q h3 h4; omega
  have h3 : D k p = -1 ∨ 0 ≤ D k p := by
    rcases good_at h hk hp hc with h3 | ⟨_, h3 | h3, _⟩ <;> omega
  rcases h3 with h3 | h3
  · rcases Int.lt_or_le (arr x k p) 0 with h4 | h4
    · rw [(arr_no ok hk hp hc h4).1, h3]
    · have := h2 _ k p hk hp hc (arr_W ok hk hp hc h4); omega
  · have h4 := h1 (D k p).toNat k p hk hp hc (by omega)
    have h5 := arr_min ok hk hp hc h4
    have h6 := h2 _ k p hk hp hc (arr_W ok hk hp hc h5.1)
    omega
def nxD (x : G) (D : Nat → Nat → Int) (k p : Nat) (n : Int) : Nat := ((x.nr p).find? fun q => x.al k q && decide (D k q = n - 1)).getD p
def rtD (x : G) (D : Nat → Nat → Int) : Nat → Nat → Nat → List Nat
  | 0, _, p => [p]
  | m + 1, k, p => p :: rtD x D m ((k + 1) % x.K) (nxD x D ((k + 1) % x.K) p ((m : Int) + 1))
theorem good_rt {x : G} (ok : x.ok) {D : Nat → Nat → Int} (h : good x D = true) : ∀ {m k p : Nat}, p < x.n → rt x m k p = rtD x D m k p := by
  intro m
  induction m with
  | zero => intro k p _; rfl
  | succ m ih =>
    intro k p hp
    have hk1 : (k + 1) % x.K < x.K := Nat.mod_lt _ ok.K0
    have e : nx x ((k + 1) % x.K) p ((m : Int) + 1) = nxD x D ((k + 1) % x.K) p ((m : Int) + 1) := by
      unfold nx nxD
      congr 1
      apply find_congr
      intro q hq
      cases hal : x.al ((k + 1) % x.K) q with
      | false => rfl
      | true => rw [good_arr ok h hk1 (ok.nrlt _ _ hp hq) (ok.alc _ _ hal)]
    have hn : nxD x D ((k + 1) % x.K) p ((m : Int) + 1) < x.n := by
      unfold nxD
      cases hf : (x.nr p).find? fun q => x.al ((k + 1) % x.K) q && decide (D ((k + 1) % x.K) q = (m : Int) + 1 - 1) with
      | none => exact hp
      | some q => exact ok.nrlt _ _ hp (List.mem_of_find?_eq_some hf)
    show p :: rt x m _ _ = p :: rtD x D m _ _
    rw [e, ih hn]
end Bf
end Go.Proofs.Ytflkbabhbnmajaa

/- The outright laws of the routes, plainly. No program in sight. -/
set_option linter.unusedSimpArgs false
set_option linter.unusedVariables false
namespace Go.Proofs.Ytflkbabhbnmajaa
namespace Rt
open Cf
/-! ### who is allowed where -/
theorem al_true {g : C} {t p tick : Int} (h : (allowed g t p tick).1 = true) : asked g t tick = 0 ∧ allows g t p tick = true := by
  unfold allowed at h
  split at h
  · rename_i h0
    split at h
    · exact ⟨h0, h⟩
    · cases h
  · cases h
theorem al_err {g : C} {t p tick : Int} (h : ¬ (allowed g t p tick).2 = 0) : (allowed g t p tick).1 = false := by
  unfold allowed at *
  by_cases h0 : asked g t tick = 0
  · rw [if_pos h0] at h ⊢
    by_cases h1 : on g p = true
    · rw [if_pos h1] at h; exact absurd rfl h
    · rw [if_neg h1]
  · rw [if_neg h0]
theorem al_iff {g : C} {t p tick : Int} (h : (allowed g t p tick).1 = true) : 0 ≤ t ∧ (owner g p = t ∨ (owner g p = -2 ∧ Fl.sown g.s tick 0 = t)) := by
  obtain ⟨h0, h1⟩ := al_true h
  have hT := asked_ten h0
  rw [allows_mine hT.c] at h1
  unfold mine aisle at h1
  simp only [Bool.or_eq_true, Bool.and_eq_true, decide_eq_true_eq] at h1
  exact ⟨hT.ten.1, h1⟩
theorem apart1 {g : C} {t u p tick : Int} (hn : ¬ t = u) (ha : (allowed g t p tick).1 = true) (hb : (allowed g u p tick).1 = true) : False := by
  have h1 := al_iff ha
  have h2 := al_iff hb
  omega
theorem apart2 {g : C} {t u p q tick : Int} (hn : ¬ t = u) (ha : (allowed g t p tick).1 = true) (hx : (allowed g u q tick).1 = true) (hy : (allowed g t q (tick + 1)).1 = true) (hz : (allowed g u p (tick + 1)).1 = true) : False := by
  have h1 := al_iff ha
  have h2 := al_iff hx
  have h3 := al_iff hy
  have h4 := al_iff hz
  omega
/-! ### one period later -/
theorem ph_period {g : C} (h : check g = 0) (tick : Int) : ph g (tick + (g.s.length : Int)) = ph g tick := by
  rw [ph_add h, Nat.add_mod_right, Nat.mod_eq_of_lt (ph_lt h tick)]
theorem asked_later {g : C} {t tick next : Int} (h : check g = 0 → (tick ≤ 4611686018427389952 ↔ next ≤ 4611686018427389952)) : asked g t next = asked g t tick := by
  unfold asked
  by_cases hc : check g = 0
  · rw [if_pos hc, if_pos hc]
    have e : (present g.ts t = true ∧ next ≤ 4611686018427389952) ↔ (present g.ts t = true ∧ tick ≤ 4611686018427389952) := and_congr_right fun _ => (h hc).symm
    by_cases h1 : present g.ts t = true ∧ tick ≤ 4611686018427389952
    · rw [if_pos h1, if_pos (e.2 h1)]
    · rw [if_neg h1, if_neg fun h2 => h1 (e.1 h2)]
  · rw [if_neg hc, if_neg hc]
theorem legE_later {g : C} {t a b tick next : Int} (h : check g = 0 → (tick ≤ 4611686018427389952 ↔ next ≤ 4611686018427389952)) : legE g t a b next = legE g t a b tick := by
  unfold legE; rw [asked_later h]
theorem period_ok {g : C} {tick : Int} (ht : tick ≤ 4611686018427387904) : check g = 0 → (tick ≤ 4611686018427389952 ↔ tick + (g.s.length : Int) ≤ 4611686018427389952) := fun h => by
  have := per_of h
  omega
theorem sown_period {g : C} (h : check g = 0) (tick : Int) : Fl.sown g.s (tick + (g.s.length : Int)) 0 = Fl.sown g.s tick 0 := by
  rw [← sown_ph h (tick + (g.s.length : Int)), ph_period h, sown_ph h]
theorem allowed_period {g : C} {t p tick : Int} (ht : tick ≤ 4611686018427387904) : allowed g t p (tick + (g.s.length : Int)) = allowed g t p tick := by
  unfold allowed
  rw [asked_later (period_ok ht)]
  by_cases h0 : asked g t tick = 0
  · have hc := (asked_ten h0).c
    rw [if_pos h0, if_pos h0, allows_mine hc, allows_mine hc, sown_period hc]
  · rw [if_neg h0, if_neg h0]
theorem arrv_period {g : C} {t a b tick : Int} (hc : check g = 0) : arrv g t a b (tick + (g.s.length : Int)) = arrv g t a b tick := by
  unfold arrv; rw [ph_period hc]
theorem arrival_period {g : C} {t a b tick : Int} (ht : tick ≤ 4611686018427387904) : arrivalR g t a b (tick + (g.s.length : Int)) = arrivalR g t a b tick := by
  unfold arrivalR
  rw [legE_later (period_ok ht)]
  by_cases h0 : legE g t a b tick = 0
  · rw [if_pos h0, if_pos h0, arrv_period (leg_of h0).1.c]
  · rw [if_neg h0, if_neg h0]
theorem route_period {g : C} {t a b tick : Int} (ht : tick ≤ 4611686018427387904) : routeR g t a b (tick + (g.s.length : Int)) = routeR g t a b tick := by
  unfold routeR
  rw [legE_later (period_ok ht)]
  by_cases h0 : legE g t a b tick = 0
  · have hc := (leg_of h0).1.c
    unfold rts
    rw [if_pos h0, if_pos h0, arrv_period hc, ph_period hc]
  · rw [if_neg h0, if_neg h0]
theorem check_not (g : C) : ¬ check g = 130 := by
  unfold check
  split
  · split
    · split
      · split <;> decide
      · decide
    · decide
  · decide
theorem asked_not (g : C) (t tick : Int) : ¬ asked g t tick = 130 := by
  unfold asked
  split
  · split <;> decide
  · exact check_not g
theorem legE_not (g : C) (t a b tick : Int) : ¬ legE g t a b tick = 130 := by
  unfold legE
  split
  · split <;> decide
  · exact asked_not g t tick
/-! ### the plan's ends -/
theorem Leg.A {g : C} {t a b : Int} (h : Leg g t a b) : a.toNat < (G g t a b).n := by have := h.ra; show a.toNat < g.l.length; omega
theorem Leg.K {g : C} {t a b : Int} (h : Leg g t a b) (tick : Int) : ph g tick < (G g t a b).K := ph_lt h.c tick
theorem near_self (g : C) (p : Nat) : ∃ r, near g p = p :: r := ⟨_, rfl⟩
theorem near_me (g : C) (p : Nat) : p ∈ near g p := by obtain ⟨r, hr⟩ := near_self g p; rw [hr]; exact List.mem_cons_self
theorem mine_al {g : C} {t a b : Int} {k : Nat} (h0 : 0 ≤ a) (h : owner g a = t) : (G g t a b).al k a.toNat = true := by
  show alw g t a b (k : Int) ((a.toNat : Nat) : Int) = true
  rw [Int.toNat_of_nonneg h0]
  unfold alw has mine
  rw [decide_eq_true h, decide_eq_true (rfl : a = a)]
  simp
/-- an allowed place is the tenant's own, or an aisle. -/
theorem al_who {g : C} {t a b : Int} {k q : Nat} (h : (G g t a b).al k q = true) : (owner g (q : Int) = t ∨ owner g (q : Int) = -2) ∧ has g t a b (q : Int) = true := by
  have h1 : alw g t a b (k : Int) (q : Int) = true := h
  unfold alw mine aisle at h1
  simp only [Bool.and_eq_true, Bool.or_eq_true, decide_eq_true_eq] at h1
  exact ⟨h1.2.imp_right (·.1), h1.1⟩
/-! ### routes are walks -/
theorem getD_cast (l : List Nat) (i : Nat) : (l.map fun (p : Nat) => (p : Int)).getD i 0 = ((l.getD i 0 : Nat) : Int) := by
  rw [List.getD_eq_getElem?_getD, List.getD_eq_getElem?_getD, List.getElem?_map]
  cases l[i]? <;> rfl
theorem arv_zero {g : C} {t a b tick : Int} (h : (arrivalR g t a b tick).2 = 0) : Leg g t a b ∧ tick ≤ 4611686018427389952 ∧ 0 ≤ arrv g t a b tick ∧ (arrivalR g t a b tick).1 = arrv g t a b tick ∧ routeR g t a b tick = (rts g t a b tick, 0) := by
  obtain ⟨h1, h2, h3, h4⟩ := route_ok h
  exact ⟨(leg_of h1).1, (leg_of h1).2, h3, h2, h4⟩
theorem route_err2 (g : C) (t a b tick : Int) : (routeR g t a b tick).2 = (arrivalR g t a b tick).2 := by
  by_cases h : (arrivalR g t a b tick).2 = 0
  · rw [(route_ok h).2.2.2, h]
  · rw [route_err h]
theorem arv_small {g : C} {t a b tick : Int} (h : (arrivalR g t a b tick).2 = 0) : 0 ≤ (arrivalR g t a b tick).1 ∧ (arrivalR g t a b tick).1 ≤ 1024 := by
  obtain ⟨hL, _, h2, h3, _⟩ := arv_zero h
  have := arr_le (tick := tick) hL
  omega
theorem rts_len (g : C) (t a b tick : Int) : (rts g t a b tick).length = (arrv g t a b tick).toNat + 1 := by unfold rts; rw [List.length_map, Bf.rt_len]
theorem route_len {g : C} {t a b tick : Int} (h : (arrivalR g t a b tick).2 = 0) : ((routeR g t a b tick).1.length : Int) = (arrivalR g t a b tick).1 + 1 := by
  obtain ⟨_, _, h2, h3, h4⟩ := arv_zero h
  rw [h4, h3]
  show ((rts g t a b tick).length : Int) = _
  rw [rts_len]; omega
theorem rts_walk {g : C} {t a b tick : Int} (hL : Leg g t a b) (h : 0 ≤ arrv g t a b tick) : isWalk g t a b tick (rts g t a b tick) := by
  have hA : Bf.arr (G g t a b) (ph g tick) a.toNat = ((arrv g t a b tick).toNat : Int) := by show arrv g t a b tick = _; omega
  obtain ⟨h1, h2, h3⟩ := Bf.rt_walk (G_ok hL) _ _ _ (hL.K tick) hL.A (cell_from hL) hA
  obtain ⟨r, hr⟩ := Bf.rt_head (G g t a b) (arrv g t a b tick).toNat (ph g tick) a.toNat
  refine ⟨by rw [rts_len]; omega, ?_, ?_, ?_⟩
  · unfold rts; rw [getD_cast, hr]; exact Int.toNat_of_nonneg hL.ra.1
  · rw [rts_len, Nat.add_sub_cancel]
    unfold rts; rw [getD_cast, h2]; exact Int.toNat_of_nonneg hL.rb.1
  · rw [rts_len, Nat.add_sub_cancel]
    intro i hi
    unfold rts
    rw [getD_cast, getD_cast, Int.toNat_natCast, Int.toNat_natCast]
    exact ⟨by omega, h1 i hi⟩
theorem arv_zero_at {g : C} {t a b tick : Int} (h : (arrivalR g t a b tick).2 = 0) : (arrivalR g t a b tick).1 = 0 ↔ a = b := by
  obtain ⟨hL, ht, h2, h3, h4⟩ := arv_zero h
  rw [h3]
  have hw := Bf.arr_W (G_ok hL) (hL.K tick) hL.A (cell_from hL) h2
  have ha := hL.ra
  have hb := hL.rb
  constructor
  · intro h0
    rw [show Bf.arr (G g t a b) (ph g tick) a.toNat = 0 from h0] at hw
    have : a.toNat = b.toNat := hw
    omega
  · rintro rfl
    have := Bf.arr_min (m := 0) (G_ok hL) (hL.K tick) hL.A (cell_from hL) rfl
    show Bf.arr _ _ _ = 0
    omega
theorem route_first {g : C} {t a b tick : Int} (h : (arrivalR g t a b tick).2 = 0) : (routeR g t a b tick).1.getD 0 0 = a := by
  obtain ⟨hL, ht, h2, h3, h4⟩ := arv_zero h
  rw [h4]
  exact (rts_walk hL h2).2.1
theorem route_same {g : C} {t a b tick : Int} (h : (arrivalR g t a b tick).2 = 0) (hl : (routeR g t a b tick).1.length < 2) : (routeR g t a b tick).1.length = 1 ∧ a = b := by
  have h1 := route_len h
  have hs := arv_small h
  exact ⟨by omega, (arv_zero_at h).1 (by omega)⟩
end Rt
end Go.Proofs.Ytflkbabhbnmajaa

/- The outright laws of the routes, plainly: the rest of a route, waiting, reached places, rows, steps. No program in sight. -/
set_option linter.unusedSimpArgs false
set_option linter.unusedVariables false
namespace Go.Proofs.Ytflkbabhbnmajaa
namespace Rt
open Cf
/-! ### the rest of a route -/
theorem has_ne {g : C} {t a b c q : Int} (hc : has g t a b c = true) (hq : q ≠ a) : has g t a b q = has g t c b q := by
  rw [Bool.eq_iff_iff]
  unfold has at *
  simp only [Bool.or_eq_true, decide_eq_true_eq] at *
  constructor
  · rintro (((h | h) | h) | h)
    · exact absurd h hq
    · exact .inl (.inl (.inr h))
    · exact .inl (.inr h)
    · exact .inr h
  · rintro (((h | h) | h) | h)
    · subst h; exact hc
    · exact .inl (.inl (.inr h))
    · exact .inl (.inr h)
    · exact .inr h
theorem has_le {g : C} {t a b c q : Int} (hc : has g t a b c = true) (h : has g t c b q = true) : has g t a b q = true := by
  by_cases hq : q = a
  · subst hq; unfold has; rw [decide_eq_true (rfl : q = q)]; simp
  · rw [has_ne hc hq]; exact h
theorem sub_G {g : C} {t a b c : Int} (ha : 0 ≤ a) (hc : has g t a b c = true) : Bf.Sub (G g t a b) (G g t c b) a.toNat where
  n := rfl
  K := rfl
  nr := fun _ => rfl
  goal := rfl
  al := fun k q h => by
    have h1 : alw g t c b (k : Int) (q : Int) = true := h
    show alw g t a b (k : Int) (q : Int) = true
    unfold alw at *
    rw [Bool.and_eq_true] at *
    exact ⟨has_le hc h1.1, h1.2⟩
  al' := fun k q hq h => by
    have h1 : alw g t a b (k : Int) (q : Int) = true := h
    show alw g t c b (k : Int) (q : Int) = true
    unfold alw at *
    rw [Bool.and_eq_true] at *
    rw [← has_ne hc (by omega)]
    exact h1
theorem G_same {g : C} {t a b c : Int} (hc : has g t a b c = true) (ha : has g t c b a = true) : G g t c b = G g t a b := by
  have h : ∀ q, has g t c b q = has g t a b q := fun q => by
    by_cases hq : q = a
    · subst hq; rw [ha]; unfold has; rw [decide_eq_true (rfl : q = q)]; simp
    · exact (has_ne hc hq).symm
  unfold G
  congr 1
  · funext p; exact h p
  · funext k p; unfold alw; rw [h]
theorem rest_ok {g : C} {t a b tick : Int} (h : (arrivalR g t a b tick).2 = 0) (hl : 2 ≤ (routeR g t a b tick).1.length) (ht : tick < 4611686018427389952) :
    routeR g t ((routeR g t a b tick).1.getD 1 0) b (tick + 1) = ((routeR g t a b tick).1.tail, 0) ∧ arrivalR g t ((routeR g t a b tick).1.getD 1 0) b (tick + 1) = (((routeR g t a b tick).1.length : Int) - 2, 0) := by
  have hlen := route_len h
  obtain ⟨hL, _, h2, h3, h4⟩ := arv_zero h
  rw [h3] at hlen
  obtain ⟨m, hm⟩ : ∃ m : Nat, arrv g t a b tick = (m : Int) + 1 := ⟨(arrv g t a b tick - 1).toNat, by omega⟩
  have hA : Bf.arr (G g t a b) (ph g tick) a.toNat = (m : Int) + 1 := hm
  have okx := G_ok hL
  have hk := hL.K tick
  have hk1 : (ph g tick + 1) % (G g t a b).K < (G g t a b).K := Nat.mod_lt _ okx.K0
  obtain ⟨n1, n2, n3⟩ := Bf.nx_ok okx hk hL.A (cell_from hL) hA
  have hph : ph g (tick + 1) = (ph g tick + 1) % g.s.length := ph_add hL.c 1
  have hrl : rts g t a b tick = (Bf.rt (G g t a b) (m + 1) (ph g tick) a.toNat).map fun (p : Nat) => (p : Int) := by
    unfold rts; rw [hm, show ((m : Int) + 1).toNat = m + 1 by omega]
  obtain ⟨c, hc⟩ : ∃ c, Bf.nx (G g t a b) ((ph g tick + 1) % (G g t a b).K) a.toNat ((m : Int) + 1) = c := ⟨_, rfl⟩
  have hr1 : (routeR g t a b tick).1.getD 1 0 = (c : Int) := by
    rw [h4]; show (rts g t a b tick).getD 1 0 = _
    rw [hrl, getD_cast, Bf.rt_one, hc]
  have htl : (routeR g t a b tick).1.tail = (Bf.rt (G g t a b) m ((ph g tick + 1) % g.s.length) c).map fun (p : Nat) => (p : Int) := by
    rw [h4]; show (rts g t a b tick).tail = _
    rw [hrl, ← List.map_tail, Bf.rt_tail, hc]; rfl
  rw [hr1, htl]
  rw [hc] at n1 n2 n3
  obtain ⟨hwho, hhas⟩ := al_who n2
  have hcn := okx.nrlt _ _ hL.A n1
  have hL' : Leg g t (c : Int) b := ⟨hL.c, hL.p, ⟨by omega, by have : c < g.l.length := hcn; omega⟩, hL.rb, hL.ob, hwho⟩
  have okc := G_ok hL'
  have ha0 := hL.ra.1
  have hav : c ≠ a.toNat → G g t (c : Int) b = G g t a b ∨ Bf.Av (G g t a b) a.toNat m ((ph g tick + 1) % (G g t a b).K) c := fun hne => by
    by_cases hw : owner g a = t
    · refine .inr ?_
      obtain ⟨r, hr⟩ := near_self g a.toNat
      have := Bf.leave okx hk hL.A (cell_from hL) (r := r) hr (fun k _ => mine_al ha0 hw) hA (by rw [hc]; exact hne)
      rw [hc] at this; exact this
    · refine .inl (G_same hhas ?_)
      have := hL.oa.resolve_left hw
      unfold has aisle
      rw [decide_eq_true this]
      simp
  have key : Bf.arr (G g t (c : Int) b) ((ph g tick + 1) % g.s.length) c = (m : Int) ∧ Bf.rt (G g t (c : Int) b) m ((ph g tick + 1) % g.s.length) c = Bf.rt (G g t a b) m ((ph g tick + 1) % g.s.length) c := by
    by_cases hca : c = a.toNat
    · have hgg : G g t (c : Int) b = G g t a b := by rw [hca, Int.toNat_of_nonneg ha0]
      rw [hgg]
      exact ⟨n3, rfl⟩
    · rcases hav hca with hgg | hav
      · rw [hgg]; exact ⟨n3, rfl⟩
      · have hs := sub_G (t := t) (b := b) (c := (c : Int)) ha0 hhas
        have hcell : (G g t (c : Int) b).cell c = true := by have := cell_from hL'; rwa [Int.toNat_natCast] at this
        exact ⟨hs.arv okx okc hk1 hcn (okx.alc _ _ n2) hcell n3 hav, hs.route okx okc hk1 hcn (okx.alc _ _ n2) n3 hav⟩
  have hle : legE g t (c : Int) b (tick + 1) = 0 := leg_err hL' (by omega)
  have hv : arrv g t (c : Int) b (tick + 1) = (m : Int) := by
    unfold arrv; rw [hph, Int.toNat_natCast]; exact key.1
  constructor
  · have : routeR g t (c : Int) b (tick + 1) = (rts g t (c : Int) b (tick + 1), 0) := (if_pos hle).trans (if_neg (by omega))
    rw [this]
    refine Prod.ext ?_ rfl
    show rts g t (c : Int) b (tick + 1) = _
    unfold rts
    rw [hv, hph, Int.toNat_natCast, Int.toNat_natCast, key.2]
  · have : arrivalR g t (c : Int) b (tick + 1) = (arrv g t (c : Int) b (tick + 1), 0) := (if_pos hle).trans (if_neg (by omega))
    rw [this, hv]
    refine Prod.ext ?_ rfl
    show (m : Int) = _
    omega
/-! ### waiting -/
theorem own_is {g : C} {p t : Int} (h : (Fl.owner g.a g.b g.l p).2 = 0) (h2 : (Fl.owner g.a g.b g.l p).1 = t) : owner g p = t := (if_pos h).trans h2
theorem waits_ok {g : C} {t a b tick : Int} (hw : owner g a = t) (h : legE g t a b tick = 0) (ht : tick ≤ 4611686018427387904) :
    ((arrivalR g t a b tick).2 = (arrivalR g t a b (tick + 1)).2) ∧ (¬ (arrivalR g t a b tick).2 = 0 → arrivalR g t a b tick = (0, 130) ∧ arrivalR g t a b (tick + 1) = (0, 130)) ∧
    ((arrivalR g t a b tick).2 = 0 → (arrivalR g t a b tick).1 - 1 ≤ (arrivalR g t a b (tick + 1)).1 ∧ (arrivalR g t a b (tick + 1)).1 ≤ (arrivalR g t a b tick).1 + g.s.length - 1) ∧
    (a = b → (arrivalR g t a b tick).1 = (arrivalR g t a b (tick + 1)).1) := by
  have hL := (leg_of h).1
  have h' : legE g t a b (tick + 1) = 0 := leg_err hL (by omega)
  have hph : ph g (tick + 1) = (ph g tick + 1) % g.s.length := ph_add hL.c 1
  obtain ⟨h1, h2⟩ := Bf.wait_one (G_ok hL) (hL.K tick) hL.A (cell_from hL) (near_me g a.toNat) (fun k _ => mine_al hL.ra.1 hw)
  have h1' : arrv g t a b tick < 0 ↔ arrv g t a b (tick + 1) < 0 := by unfold arrv; rw [hph]; exact h1
  have h2' : 0 ≤ arrv g t a b tick → arrv g t a b tick ≤ arrv g t a b (tick + 1) + 1 ∧ arrv g t a b (tick + 1) ≤ arrv g t a b tick + g.s.length - 1 := by unfold arrv; rw [hph]; exact h2
  rw [arv_of h, arv_of h']
  by_cases hn : arrv g t a b tick < 0
  · rw [if_pos hn, if_pos (h1'.1 hn)]
    exact ⟨rfl, fun _ => ⟨rfl, rfl⟩, fun h => absurd h (by decide), fun _ => rfl⟩
  · rw [if_neg hn, if_neg fun h => hn (h1'.2 h)]
    have h3 := h2' (by omega)
    refine ⟨rfl, fun h => absurd rfl h, fun _ => ⟨by show arrv g t a b tick - 1 ≤ arrv g t a b (tick + 1); omega, h3.2⟩, ?_⟩
    rintro rfl
    have e1 : (arrivalR g t a a tick).1 = 0 := (arv_zero_at (by rw [arv_of h, if_neg hn])).2 rfl
    have e2 : (arrivalR g t a a (tick + 1)).1 = 0 := (arv_zero_at (by rw [arv_of h', if_neg fun h => hn (h1'.2 h)])).2 rfl
    rw [arv_of h, if_neg hn] at e1
    rw [arv_of h', if_neg fun h => hn (h1'.2 h)] at e2
    exact e1.trans e2.symm
/-! ### reached places -/
/-! ### rows -/
theorem rows_ok {g : C} {t a b tick : Int} (h : legE g t a b 0 = 0) (h0 : 0 ≤ tick) (ht : tick ≤ 4611686018427389952) :
    tableR g t a b = ((List.range g.s.length).map fun k => Bf.arr (G g t a b) k a.toNat, 0) ∧ (tableR g t a b).1.getD (tick % (g.s.length : Int)).toNat 0 = arrv g t a b tick ∧ (((arrivalR g t a b tick).2 = 0 ∧ (arrivalR g t a b tick).1 = arrv g t a b tick) ∨ ((arrivalR g t a b tick).2 = 130 ∧ arrv g t a b tick = -1)) := by
  have hL := (leg_of h).1
  have h' : legE g t a b tick = 0 := leg_err hL ht
  have e : tableR g t a b = ((List.range g.s.length).map fun k => Bf.arr (G g t a b) k a.toNat, 0) := if_pos h
  refine ⟨e, ?_, ?_⟩
  · rw [e]
    have := ph_lt hL.c tick
    show ((List.range g.s.length).map fun k => Bf.arr (G g t a b) k a.toNat).getD (ph g tick) 0 = _
    rw [List.getD_eq_getElem?_getD, List.getElem?_map, List.getElem?_range this]
    rfl
  · rw [arv_of h']
    by_cases hn : arrv g t a b tick < 0
    · rw [if_pos hn]
      exact .inr ⟨rfl, (Bf.arr_no (G_ok hL) (hL.K tick) hL.A (cell_from hL) hn).1⟩
    · rw [if_neg hn]
      exact .inl ⟨rfl, rfl⟩
theorem table_err {g : C} {t a b : Int} (h : ¬ legE g t a b 0 = 0) : tableR g t a b = ([], legE g t a b 0) := if_neg h
theorem legE_any {g : C} {t a b tick : Int} (ht : tick ≤ 4611686018427389952) : legE g t a b tick = legE g t a b 0 := legE_later fun _ => by omega
/-! ### step by step -/
theorem route_pos {g : C} {t a b tick : Int} (h : (arrivalR g t a b tick).2 = 0) : 1 ≤ (routeR g t a b tick).1.length := by
  have h1 := route_len h
  have h2 := arv_small h
  omega
end Rt
end Go.Proofs.Ytflkbabhbnmajaa

/- The outright laws of the routes, plainly: the longest leg, projections, the chapter's example. No program in sight. -/
set_option linter.unusedSimpArgs false
set_option linter.unusedVariables false
namespace Go.Proofs.Ytflkbabhbnmajaa
namespace Rt
open Cf
/-! ### the longest leg -/
/-! ### projections -/
/-- the first i tenants are sound alone. -/
noncomputable def soundTo (g : C) (i : Nat) : Bool := decide (∀ j, j < i → 0 ≤ most g ((tenants g.ts g.ts.length).getD j 0))
/-! ### the chapter's example -/
theorem stay_ok {g : C} {t a tick : Int} (h : legE g t a a tick = 0) : arrivalR g t a a tick = (0, 0) ∧ routeR g t a a tick = ([a], 0) := by
  have hL := (leg_of h).1
  have h1 := Bf.arr_min (m := 0) (G_ok hL) (hL.K tick) hL.A (cell_from hL) rfl
  have h2 : arrv g t a a tick = 0 := by show Bf.arr _ _ _ = 0; omega
  constructor
  · rw [arv_of h, if_neg (by omega), h2]
  · have : routeR g t a a tick = (rts g t a a tick, 0) := (if_pos h).trans (if_neg (by omega))
    rw [this]
    refine Prod.ext ?_ rfl
    show (Bf.rt (G g t a a) (arrv g t a a tick).toNat (ph g tick) a.toNat).map (fun (p : Nat) => (p : Int)) = [a]
    rw [h2]
    show [((a.toNat : Nat) : Int)] = [a]
    rw [Int.toNat_of_nonneg hL.ra.1]
def exd : List (List Int) := [[-1, 3, 2, 1, 0, 8, 4, 3, 2, 1, -1, -1, 4, -1, -1, -1, -1, -1, -1, -1], [-1, 7, 2, 1, 0, 7, 7, 3, 2, 1, -1, -1, -1, -1, -1, -1, -1, -1, -1, -1], [-1, 6, 2, 1, 0, 6, 6, 3, 2, 1, -1, -1, -1, -1, -1, -1, -1, -1, -1, -1], [-1, 5, 2, 1, 0, 5, 5, 3, 2, 1, -1, -1, -1, -1, -1, -1, -1, -1, -1, -1], [-1, 4, 2, 1, 0, 5, 4, 3, 2, 1, -1, -1, -1, -1, -1, -1, -1, -1, -1, -1], [-1, 3, 2, 1, 0, 5, 4, 3, 2, 1, -1, -1, 4, -1, -1, -1, -1, 5, -1, -1]]
def exD (k p : Nat) : Int := (exd.getD k []).getD p (-1)
theorem ex_good : Bf.good (G ex 0 5 4) exD = true := by decide +kernel
theorem ex_leg {tick : Int} (h : tick ≤ 4611686018427389952) : legE ex 0 5 4 tick = 0 := by
  rw [legE_any h]; decide +kernel
theorem ex_route {tick : Int} (h : tick ≤ 4611686018427389952) (h0 : 0 ≤ exD (ph ex tick) 5) : arrivalR ex 0 5 4 tick = (exD (ph ex tick) 5, 0) ∧
    routeR ex 0 5 4 tick = ((Bf.rtD (G ex 0 5 4) exD (exD (ph ex tick) 5).toNat (ph ex tick) 5).map fun (p : Nat) => (p : Int), 0) := by
  have hl := ex_leg h
  have hL := (leg_of hl).1
  have e : arrv ex 0 5 4 tick = exD (ph ex tick) 5 := Bf.good_arr (G_ok hL) ex_good (hL.K tick) hL.A (cell_from hL)
  constructor
  · rw [arv_of hl, if_neg (by omega), e]
  · have : routeR ex 0 5 4 tick = (rts ex 0 5 4 tick, 0) := (if_pos hl).trans (if_neg (by omega))
    rw [this]
    unfold rts
    rw [e]
    exact congrArg (fun l => (List.map (fun (p : Nat) => (p : Int)) l, (0 : Int))) (Bf.good_rt (G_ok hL) ex_good hL.A)
theorem ex_4 : arrivalR ex 0 5 4 4 = (5, 0) ∧ routeR ex 0 5 4 4 = ([5, 6, 1, 2, 3, 4], 0) := by
  have h := ex_route (tick := 4) (by omega) (by decide +kernel)
  rw [h.1, h.2]
  decide +kernel
theorem ex_5 : arrivalR ex 0 5 4 5 = (5, 0) ∧ routeR ex 0 5 4 5 = ([5, 6, 7, 8, 3, 4], 0) := by
  have h := ex_route (tick := 5) (by omega) (by decide +kernel)
  rw [h.1, h.2]
  decide +kernel
theorem ex_0 : arrivalR ex 0 5 4 0 = (8, 0) ∧ routeR ex 0 5 4 0 = ([5, 5, 5, 5, 6, 1, 2, 3, 4], 0) := by
  have h := ex_route (tick := 0) (by omega) (by decide +kernel)
  rw [h.1, h.2]
  decide +kernel
theorem ex_s : arrivalR ex 0 4 4 0 = (0, 0) ∧ routeR ex 0 4 4 0 = ([4], 0) := stay_ok (by decide +kernel)
theorem ex_al : allowed ex 0 7 6 = (true, 0) ∧ allowed ex 1 7 6 = (false, 0) ∧ allowed ex 0 7 8 = (false, 0) ∧ allowed ex 1 7 8 = (false, 0) ∧ allowed ex 1 12 9 = (true, 0) ∧ allowed ex 0 12 9 = (false, 0) ∧ allowed ex 0 5 8 = (true, 0) ∧ allowed ex 1 5 9 = (false, 0) := by decide +kernel
end Rt
end Go.Proofs.Ytflkbabhbnmajaa

/- Closed facts on the program (printed by gen.py). -/
namespace Go.Proofs.Ytflkbabhbnmajaa
open Go Go.RowKit
set_option linter.unusedSimpArgs false
set_option linter.unusedVariables false
theorem nm19 : E.Nm Try.prog 19 := ⟨Try.f19, Try.func19, rfl, by kernel_rfl⟩
theorem nm23 : E.Nm Try.prog 23 := ⟨Try.f23, Try.func23, rfl, by kernel_rfl⟩
end Go.Proofs.Ytflkbabhbnmajaa

/- Closed facts on the program (printed by gen.py). -/
namespace Go.Proofs.Ytflkbabhbnmajaa
open Go Go.RowKit
set_option linter.unusedSimpArgs false
set_option linter.unusedVariables false
theorem nm31 : E.Nm Try.prog 31 := ⟨Try.f31, Try.func31, rfl, by kernel_rfl⟩
end Go.Proofs.Ytflkbabhbnmajaa

/- Closed facts on the program (printed by gen.py). -/
namespace Go.Proofs.Ytflkbabhbnmajaa
open Go Go.RowKit
set_option linter.unusedSimpArgs false
set_option linter.unusedVariables false
theorem bsl31_6_0_1_2_3_4_5 (x0 : Int) (x1 : Int) (x2 : Int) (x3 : Int) (x4 : Int) (x5 : Int) (w : World) : (Instr.buildSlice 31 6 #[(0, .int .i64 x0), (1, .int .i64 x1), (2, .int .i64 x2), (3, .int .i64 x3), (4, .int .i64 x4), (5, .int .i64 x5)]).run Try.prog w = .ok (.slice (some ⟨w.heap.size, 0, none⟩) 6 6) (w.alloc (.cells #[.int .i64 x0, .int .i64 x1, .int .i64 x2, .int .i64 x3, .int .i64 x4, .int .i64 x5] 3)) := by kernel_rfl
theorem bsl31_9_0_1_2_3_4_5_6_7_8 (x0 : Int) (x1 : Int) (x2 : Int) (x3 : Int) (x4 : Int) (x5 : Int) (x6 : Int) (x7 : Int) (x8 : Int) (w : World) : (Instr.buildSlice 31 9 #[(0, .int .i64 x0), (1, .int .i64 x1), (2, .int .i64 x2), (3, .int .i64 x3), (4, .int .i64 x4), (5, .int .i64 x5), (6, .int .i64 x6), (7, .int .i64 x7), (8, .int .i64 x8)]).run Try.prog w = .ok (.slice (some ⟨w.heap.size, 0, none⟩) 9 9) (w.alloc (.cells #[.int .i64 x0, .int .i64 x1, .int .i64 x2, .int .i64 x3, .int .i64 x4, .int .i64 x5, .int .i64 x6, .int .i64 x7, .int .i64 x8] 3)) := by kernel_rfl
theorem nm110 : E.Nm Try.prog 110 := ⟨Try.f110, Try.func110, rfl, by kernel_rfl⟩
theorem nm80 : E.Nm Try.prog 80 := ⟨Try.f80, Try.func80, rfl, by kernel_rfl⟩
theorem nm81 : E.Nm Try.prog 81 := ⟨Try.f81, Try.func81, rfl, by kernel_rfl⟩
end Go.Proofs.Ytflkbabhbnmajaa

/- Walks (printed by gen.py). -/
namespace Go.Proofs.Ytflkbabhbnmajaa
open Go Go.RowKit
set_option linter.unusedSimpArgs false
set_option linter.unusedVariables false

set_option maxRecDepth 100000 in
theorem lal_ok (t p tick : Int) (b : Bool) (w0 : World) (ht : 0 ≤ tick ∧ tick < 18446744073709551616) (hA : Rt.allowed Cf.ex t p tick = (b, 0)) :
    Calls Try.prog 80 #[.int .i64 t, .int .i64 p, .int .u64 tick] w0 (E.Post w0 (E.Old w0) fun v Hn => v = .bool b ∧ Hn = []) := by
  refine E.calls_of (vs := [.int .i64 t, .int .i64 p, .int .u64 tick]) (H := []) Try.func80 Try.ntmps80 rfl rfl (E.HA.start w0) ?_
  refine E.CW.seq ?_
  refine E.CW.region ?_
  refine E.OW.pure rfl rfl rfl (E.PV.assign rfl rfl) ?_
  refine E.OW.nil ?_
  refine E.then_n ?_
  refine E.CW.seq ?_
  refine E.CW.region ?_
  (refine E.OW.call nm110 rfl rfl rfl rfl rfl rfl _ (fun w hw => Exa_ok w) ?_; rintro _ _ ⟨gX, rfl, rfl, hgX⟩)
  have hfX : gX.q.fit := hgX ▸ Cf.ex_fit
  refine E.OW.pure rfl rfl rfl (E.PV.move rfl rfl) ?_
  refine E.OW.pure rfl rfl rfl (E.PV.move rfl rfl) ?_
  refine E.OW.pure rfl rfl rfl (E.PV.move rfl rfl) ?_
  (refine E.OW.call nm31 rfl rfl rfl rfl rfl rfl _ (fun w hw => Ad_ok gX t p tick w ?_ hfX ht) ?_; (focus (exact hw.rdcfg (i := 0) rfl)); rintro _ _ ⟨rfl, rfl⟩)
  refine E.OW.pure rfl rfl rfl (E.PV.move rfl rfl) ?_
  refine E.OW.pure rfl rfl rfl (E.PV.extract rfl rfl rfl) ?_
  refine E.OW.pure rfl rfl rfl (E.PV.extract rfl rfl rfl) ?_
  refine E.OW.pure rfl rfl rfl (E.PV.assign rfl rfl) ?_
  refine E.OW.pure rfl rfl rfl (E.PV.assign rfl rfl) ?_
  refine E.OW.nil ?_
  refine E.then_n ?_
  refine E.CW.seq ?_
  refine E.CW.put 7 (.bool b) rfl (by rw [hgX, hA]; rfl) ?_
  refine E.CW.put 8 (.int .i64 0) rfl (by rw [hgX, hA]; rfl) ?_
  refine E.CW.region ?_
  refine E.OW.pure rfl rfl rfl (E.PV.move rfl rfl) ?_
  refine E.OW.pure rfl rfl rfl (E.PV.move rfl rfl) ?_
  all_goals (refine E.OW.split 18 rfl (fun hc => ?_) (fun hc => ?_) <;> (try simp only [E.b0, E.b1, E.b2, E.b3, E.b4, E.b5, E.b6, E.b7, E.b8, E.b9, E.b10, E.b11, E.b12, E.b13, E.b14, E.b15, E.b16, E.b17, E.b18, E.b19, E.b20, reduceCtorEq] at hc) <;> (try (exfalso; first | assumption | contradiction | omega)))
  all_goals (first | (refine E.OW.off rfl rfl rfl ?_) | (refine E.OW.pure rfl rfl rfl (E.PV.move rfl rfl) ?_))
  all_goals (first | (refine E.OW.off rfl rfl rfl ?_) | (refine E.OW.pure rfl rfl rfl (E.PV.eql rfl rfl rfl) ?_))
  all_goals (first | (refine E.OW.pure rfl rfl rfl (E.PV.pick_t rfl rfl rfl) ?_) | (refine E.OW.pure rfl rfl rfl (E.PV.pick_f rfl rfl rfl) ?_))
  all_goals (refine E.OW.pure rfl rfl rfl (E.PV.assign rfl rfl) ?_)
  all_goals (
    refine E.OW.nil ?_
    refine E.then_n ?_
    refine E.CW.ret ?_
    refine E.KR.one [] Try.results80 rfl rfl ?_
    exact ⟨by cases b <;> simp_all, rfl⟩)

set_option maxRecDepth 100000 in
theorem goes_ok (a b tick : Int) (A : Option Addr) (c : Nat) (l : List Int) (w0 : World) (ht : 0 ≤ tick ∧ tick < 18446744073709551616) (hX : E.Rd w0 (E.Old w0) A (E.ints l)) (hll : l.length ≤ 1000) (hO : Rt.arrivalR Cf.ex 0 a b tick = ((l.length : Int) - 1, 0) ∧ Rt.routeR Cf.ex 0 a b tick = (l, 0)) :
    Calls Try.prog 81 #[.int .i64 a, .int .i64 b, .int .u64 tick, .slice A l.length c] w0 (E.Post w0 (E.Old w0) fun v Hn => v = .bool true ∧ Hn = []) := by
  refine E.calls_of (vs := [.int .i64 a, .int .i64 b, .int .u64 tick, .slice A l.length c]) (H := []) Try.func81 Try.ntmps81 rfl rfl (E.HA.start w0) ?_
  refine E.CW.seq ?_
  refine E.CW.region ?_
  refine E.OW.pure rfl rfl rfl (E.PV.assign rfl rfl) ?_
  refine E.OW.nil ?_
  refine E.then_n ?_
  refine E.CW.seq ?_
  refine E.CW.region ?_
  refine E.OW.pure rfl rfl rfl (E.PV.move rfl rfl) ?_
  refine E.OW.pure rfl rfl rfl (E.PV.move rfl rfl) ?_
  refine E.OW.pure rfl rfl rfl (E.PV.build (ps := [(0, .tmp 14), (1, .tmp 15)]) rfl rfl (fun w => bld30_0_1 _ _ w)) ?_
  refine E.OW.alloc (in30.zr) rfl rfl rfl rfl rfl (fun B1 => ?_)
  refine E.OW.store (i := 0) in30.size rfl rfl rfl rfl rfl rfl rfl rfl rfl ?_
  refine E.OW.nil ?_
  refine E.then_n ?_
  refine E.CW.seq ?_
  refine E.CW.drawx mixed [0] rfl ?_
  all_goals (refine E.AW.first 1 rfl (by kernel_rfl) (by kernel_rfl) (by kernel_rfl) rfl rfl rfl (E.PV.loads (i := 0) is30 rfl rfl rfl rfl) ?_)
  all_goals (refine E.AW.first 2 rfl (by kernel_rfl) (by kernel_rfl) (by kernel_rfl) rfl rfl rfl (E.PV.move rfl rfl) ?_)
  all_goals (refine E.AW.one 0 (by kernel_rfl) rfl ?_)
  all_goals ((refine E.OW.call nm110 rfl rfl rfl rfl rfl rfl _ (fun w hw => Exa_ok w) ?_; rintro _ _ ⟨gX, rfl, rfl, hgX⟩))
  all_goals (first | (refine E.AW.nil [0] rfl ?_) | (refine E.AW.nil [1] rfl ?_) | (refine E.AW.nil [2] rfl ?_) | (refine E.AW.nil [3] rfl ?_) | (refine E.AW.nil [4] rfl ?_) | (refine E.AW.nil [5] rfl ?_) | (refine E.AW.nil [6] rfl ?_) | (refine E.AW.nil [0] rfl ?_) | (refine E.AW.nil [0] rfl ?_))
  all_goals (have hfX : gX.q.fit := hgX ▸ Cf.ex_fit)
  all_goals (refine E.AW.one 3 (by kernel_rfl) rfl ?_)
  all_goals ((refine E.OW.call nm40 rfl rfl rfl rfl rfl rfl _ (fun w hw => Ro_ok gX 0 a b tick w ?_ hfX ht) ?_; (focus (exact hw.rdcfg (i := 0) rfl)); rintro _ _ ⟨ARo, cRo, rfl, rfl⟩))
  all_goals (first | (refine E.AW.nil [0] rfl ?_) | (refine E.AW.nil [1] rfl ?_) | (refine E.AW.nil [2] rfl ?_) | (refine E.AW.nil [3] rfl ?_) | (refine E.AW.nil [4] rfl ?_) | (refine E.AW.nil [5] rfl ?_) | (refine E.AW.nil [6] rfl ?_) | (refine E.AW.nil [0] rfl ?_) | (refine E.AW.nil [0] rfl ?_))
  all_goals (refine E.AW.first 4 rfl (by kernel_rfl) (by kernel_rfl) (by kernel_rfl) rfl rfl rfl (E.PV.move rfl rfl) ?_)
  all_goals (refine E.AW.first 5 rfl (by kernel_rfl) (by kernel_rfl) (by kernel_rfl) rfl rfl rfl (E.PV.extract rfl rfl rfl) ?_)
  all_goals (refine E.AW.first 6 rfl (by kernel_rfl) (by kernel_rfl) (by kernel_rfl) rfl rfl rfl (E.PV.extract rfl rfl rfl) ?_)
  all_goals (refine E.AW.first 7 rfl (by kernel_rfl) (by kernel_rfl) (by kernel_rfl) rfl rfl rfl (E.PV.assign rfl rfl) ?_)
  all_goals (refine E.AW.first 8 rfl (by kernel_rfl) (by kernel_rfl) (by kernel_rfl) rfl rfl rfl (E.PV.assign rfl rfl) ?_)
  all_goals (refine E.AW.done (by kernel_rfl) ?_)
  all_goals (
    skip
    refine E.then_n ?_
    refine E.CW.seq ?_
    refine E.CW.put 10 (.slice ARo l.length cRo) rfl (by rw [hgX, hO.2]; rfl) ?_
    refine E.CW.put 11 (.int .i64 0) rfl (by rw [hgX, hO.2]; rfl) ?_
    refine E.CW.chunk 0 (E.HP.row 3 1 ARo l.length cRo (E.ints l)) rfl (by rw [hgX, hO.2]) ?_
    refine E.CW.drawx mixed [2] rfl ?_
    all_goals (refine E.AW.first 1 rfl (by kernel_rfl) (by kernel_rfl) (by kernel_rfl) rfl rfl rfl (E.PV.loads (i := 0) is30 rfl rfl rfl rfl) ?_)
    all_goals (refine E.AW.first 2 rfl (by kernel_rfl) (by kernel_rfl) (by kernel_rfl) rfl rfl rfl (E.PV.move rfl rfl) ?_)
    all_goals (refine E.AW.one 0 (by kernel_rfl) rfl ?_)
    all_goals ((refine E.OW.call nm110 rfl rfl rfl rfl rfl rfl _ (fun w hw => Exa_ok w) ?_; rintro _ _ ⟨gY, rfl, rfl, hgY⟩))
    all_goals (first | (refine E.AW.nil [2] rfl ?_) | (refine E.AW.nil [3] rfl ?_) | (refine E.AW.nil [4] rfl ?_) | (refine E.AW.nil [5] rfl ?_) | (refine E.AW.nil [6] rfl ?_) | (refine E.AW.nil [7] rfl ?_) | (refine E.AW.nil [8] rfl ?_) | (refine E.AW.nil [1] rfl ?_) | (refine E.AW.nil [0] rfl ?_))
    all_goals (have hfY : gY.q.fit := hgY ▸ Cf.ex_fit)
    all_goals (refine E.AW.one 3 (by kernel_rfl) rfl ?_)
    all_goals ((refine E.OW.call nm39 rfl rfl rfl rfl rfl rfl _ (fun w hw => Arv_ok gY 0 a b tick w ?_ hfY ht) ?_; (focus (exact hw.rdcfg (i := 0) rfl)); rintro _ _ ⟨rfl, rfl⟩))
    all_goals (first | (refine E.AW.nil [2] rfl ?_) | (refine E.AW.nil [3] rfl ?_) | (refine E.AW.nil [4] rfl ?_) | (refine E.AW.nil [5] rfl ?_) | (refine E.AW.nil [6] rfl ?_) | (refine E.AW.nil [7] rfl ?_) | (refine E.AW.nil [8] rfl ?_) | (refine E.AW.nil [1] rfl ?_) | (refine E.AW.nil [0] rfl ?_))
    all_goals (refine E.AW.first 4 rfl (by kernel_rfl) (by kernel_rfl) (by kernel_rfl) rfl rfl rfl (E.PV.move rfl rfl) ?_)
    all_goals (refine E.AW.first 5 rfl (by kernel_rfl) (by kernel_rfl) (by kernel_rfl) rfl rfl rfl (E.PV.extract rfl rfl rfl) ?_)
    all_goals (refine E.AW.first 6 rfl (by kernel_rfl) (by kernel_rfl) (by kernel_rfl) rfl rfl rfl (E.PV.extract rfl rfl rfl) ?_)
    all_goals (refine E.AW.first 7 rfl (by kernel_rfl) (by kernel_rfl) (by kernel_rfl) rfl rfl rfl (E.PV.assign rfl rfl) ?_)
    all_goals (refine E.AW.first 8 rfl (by kernel_rfl) (by kernel_rfl) (by kernel_rfl) rfl rfl rfl (E.PV.assign rfl rfl) ?_)
    all_goals (refine E.AW.done (by kernel_rfl) ?_)
    all_goals (
      skip
      refine E.then_n ?_
      refine E.CW.seq ?_
      refine E.CW.put 12 (.int .i64 ((l.length : Int) - 1)) rfl (by rw [hgY, hO.1]; rfl) ?_
      refine E.CW.put 13 (.int .i64 0) rfl (by rw [hgY, hO.1]; rfl) ?_
      refine E.CW.region ?_
      refine E.OW.pure rfl rfl rfl (E.PV.move rfl rfl) ?_
      refine E.OW.pure rfl rfl rfl (E.PV.eql rfl rfl rfl) ?_
      refine E.OW.pure rfl rfl rfl (E.PV.move rfl rfl) ?_
      all_goals (refine E.OW.put 33 (.bool true) (v := .bool true) rfl rfl ?_)
      all_goals (refine E.OW.pure rfl rfl rfl (E.PV.move rfl rfl) ?_)
      all_goals (refine E.OW.pure rfl rfl rfl (E.PV.eql rfl rfl rfl) ?_)
      all_goals (refine E.OW.pure rfl rfl rfl (E.PV.pick_t rfl rfl rfl) ?_)
      all_goals (refine E.OW.pure rfl rfl rfl (E.PV.move rfl rfl) ?_)
      all_goals (refine E.OW.put 37 (.bool true) (v := .bool true) rfl rfl ?_)
      all_goals (refine E.OW.pure rfl rfl rfl (E.PV.move rfl rfl) ?_)
      all_goals (refine E.OW.pure rfl rfl rfl (E.PV.move rfl rfl) ?_)
      all_goals ((refine E.OW.call nm22 rfl rfl rfl rfl rfl rfl _ (fun w hw => rSameInts_ok _ _ (l) _ _ (l) w ?_ ?_ ?_) ?_; (focus (omega)); (focus (exact hw.rdrow (i := 1) rfl)); (focus (refine hw.rd ?_; assumption)); rintro _ _ ⟨rfl, rfl⟩))
      all_goals (refine E.OW.pure rfl rfl rfl (E.PV.pick_t rfl rfl rfl) ?_)
      all_goals (refine E.OW.pure rfl rfl rfl (E.PV.move rfl rfl) ?_)
      all_goals (refine E.OW.put 42 (.bool true) rfl (congrArg Value.bool ?_) ?_; (focus ((simp only [E.b0, E.b1, E.b2, E.b3, E.b4, E.b5, E.b6, E.b7, E.b8, E.b9, E.b10, E.b11, E.b12, E.b13, E.b14, E.b15, E.b16, E.b17, E.b18, E.b19, E.b20]; done))))
      all_goals (refine E.OW.pure rfl rfl rfl (E.PV.move rfl rfl) ?_)
      all_goals (refine E.OW.pure rfl rfl rfl (E.PV.move rfl rfl) ?_)
      all_goals (refine E.OW.pure rfl rfl rfl (E.PV.len Try.underlying31 rfl rfl) ?_)
      all_goals (refine E.OW.pure rfl rfl rfl (E.PV.sub_i64 rfl rfl rfl ?_) ?_; (focus (omega)))
      all_goals (refine E.OW.pure rfl rfl rfl (E.PV.eql rfl rfl rfl) ?_)
      all_goals (refine E.OW.pure rfl rfl rfl (E.PV.pick_t rfl rfl rfl) ?_)
      all_goals (refine E.OW.pure rfl rfl rfl (E.PV.assign rfl rfl) ?_)
      all_goals (
        refine E.OW.nil ?_
        refine E.then_n ?_
        refine E.CW.ret ?_
        refine E.KR.one [] Try.results81 rfl rfl ?_
        exact ⟨by simp, rfl⟩)))

set_option maxRecDepth 100000 in
theorem alive4_ok  (w0 : World) :
    Calls Try.prog 38 #[] w0 (E.Post w0 (E.Old w0) fun v Hn => v = .bool true ∧ Hn = []) := by
  refine E.calls_of (vs := []) (H := []) Try.func38 Try.ntmps38 rfl rfl (E.HA.start w0) ?_
  refine E.CW.seq ?_
  refine E.CW.region ?_
  refine E.OW.pure rfl rfl rfl (E.PV.assign rfl rfl) ?_
  refine E.OW.nil ?_
  refine E.then_n ?_
  refine E.CW.seq ?_
  refine E.CW.region ?_
  (refine E.OW.call nm80 rfl rfl rfl rfl rfl rfl _ (fun w hw => lal_ok 0 7 6 _ w (by omega) Rt.ex_al.1) ?_; rintro _ _ ⟨rfl, rfl⟩)
  refine E.OW.pure rfl rfl rfl (E.PV.move rfl rfl) ?_
  all_goals (refine E.OW.put 4 (.bool true) (v := .bool true) rfl rfl ?_)
  all_goals ((refine E.OW.call nm80 rfl rfl rfl rfl rfl rfl _ (fun w hw => lal_ok 1 7 6 _ w (by omega) Rt.ex_al.2.1) ?_; rintro _ _ ⟨rfl, rfl⟩))
  all_goals (refine E.OW.pure rfl rfl rfl (E.PV.not rfl rfl) ?_)
  all_goals (refine E.OW.pure rfl rfl rfl (E.PV.pick_t rfl rfl rfl) ?_)
  all_goals (refine E.OW.pure rfl rfl rfl (E.PV.move rfl rfl) ?_)
  all_goals (refine E.OW.put 8 (.bool true) (v := .bool true) rfl rfl ?_)
  all_goals ((refine E.OW.call nm80 rfl rfl rfl rfl rfl rfl _ (fun w hw => lal_ok 0 7 8 _ w (by omega) Rt.ex_al.2.2.1) ?_; rintro _ _ ⟨rfl, rfl⟩))
  all_goals (refine E.OW.pure rfl rfl rfl (E.PV.not rfl rfl) ?_)
  all_goals (refine E.OW.pure rfl rfl rfl (E.PV.pick_t rfl rfl rfl) ?_)
  all_goals (refine E.OW.pure rfl rfl rfl (E.PV.move rfl rfl) ?_)
  all_goals (refine E.OW.put 12 (.bool true) (v := .bool true) rfl rfl ?_)
  all_goals ((refine E.OW.call nm80 rfl rfl rfl rfl rfl rfl _ (fun w hw => lal_ok 1 7 8 _ w (by omega) Rt.ex_al.2.2.2.1) ?_; rintro _ _ ⟨rfl, rfl⟩))
  all_goals (refine E.OW.pure rfl rfl rfl (E.PV.not rfl rfl) ?_)
  all_goals (refine E.OW.pure rfl rfl rfl (E.PV.pick_t rfl rfl rfl) ?_)
  all_goals (refine E.OW.pure rfl rfl rfl (E.PV.move rfl rfl) ?_)
  all_goals (refine E.OW.put 16 (.bool true) (v := .bool true) rfl rfl ?_)
  all_goals ((refine E.OW.call nm80 rfl rfl rfl rfl rfl rfl _ (fun w hw => lal_ok 1 12 9 _ w (by omega) Rt.ex_al.2.2.2.2.1) ?_; rintro _ _ ⟨rfl, rfl⟩))
  all_goals (refine E.OW.pure rfl rfl rfl (E.PV.pick_t rfl rfl rfl) ?_)
  all_goals (refine E.OW.pure rfl rfl rfl (E.PV.move rfl rfl) ?_)
  all_goals (refine E.OW.put 19 (.bool true) (v := .bool true) rfl rfl ?_)
  all_goals ((refine E.OW.call nm80 rfl rfl rfl rfl rfl rfl _ (fun w hw => lal_ok 0 12 9 _ w (by omega) Rt.ex_al.2.2.2.2.2.1) ?_; rintro _ _ ⟨rfl, rfl⟩))
  all_goals (refine E.OW.pure rfl rfl rfl (E.PV.not rfl rfl) ?_)
  all_goals (refine E.OW.pure rfl rfl rfl (E.PV.pick_t rfl rfl rfl) ?_)
  all_goals (refine E.OW.pure rfl rfl rfl (E.PV.move rfl rfl) ?_)
  all_goals (refine E.OW.put 23 (.bool true) (v := .bool true) rfl rfl ?_)
  all_goals ((refine E.OW.call nm80 rfl rfl rfl rfl rfl rfl _ (fun w hw => lal_ok 0 5 8 _ w (by omega) Rt.ex_al.2.2.2.2.2.2.1) ?_; rintro _ _ ⟨rfl, rfl⟩))
  all_goals (refine E.OW.pure rfl rfl rfl (E.PV.pick_t rfl rfl rfl) ?_)
  all_goals (refine E.OW.pure rfl rfl rfl (E.PV.move rfl rfl) ?_)
  all_goals (refine E.OW.put 26 (.bool true) (v := .bool true) rfl rfl ?_)
  all_goals ((refine E.OW.call nm80 rfl rfl rfl rfl rfl rfl _ (fun w hw => lal_ok 1 5 9 _ w (by omega) Rt.ex_al.2.2.2.2.2.2.2) ?_; rintro _ _ ⟨rfl, rfl⟩))
  all_goals (refine E.OW.pure rfl rfl rfl (E.PV.not rfl rfl) ?_)
  all_goals (refine E.OW.pure rfl rfl rfl (E.PV.pick_t rfl rfl rfl) ?_)
  all_goals (refine E.OW.pure rfl rfl rfl (E.PV.assign rfl rfl) ?_)
  all_goals (
    refine E.OW.nil ?_
    refine E.then_n ?_
    refine E.CW.seq ?_
    refine E.CW.region ?_
    refine E.OW.buildSlice (Et := 3) (sz := 1) (cs := E.ints ([5, 6, 1, 2, 3, 4])) (ps := [(0, .const (.int .i64 5)), (1, .const (.int .i64 6)), (2, .const (.int .i64 1)), (3, .const (.int .i64 2)), (4, .const (.int .i64 3)), (5, .const (.int .i64 4))]) rfl rfl rfl rfl rfl rfl (by unfold maxLen; omega) (fun w => bsl31_6_0_1_2_3_4_5 _ _ _ _ _ _ w) (fun A1 => ?_); refine E.OW.chunk 0 (E.HP.row 3 1 A1 (List.length ([5, 6, 1, 2, 3, 4])) 6 (E.ints ([5, 6, 1, 2, 3, 4]))) rfl rfl ?_; refine E.OW.put 30 (.slice A1 (List.length ([5, 6, 1, 2, 3, 4])) 6) rfl rfl ?_
    (refine E.OW.call nm81 rfl rfl rfl rfl rfl rfl _ (fun w hw => goes_ok 5 4 4 _ _ [5, 6, 1, 2, 3, 4] w (by omega) ?_ (by decide) Rt.ex_4) ?_; (focus (exact hw.rdrow (i := 0) rfl)); rintro _ _ ⟨rfl, rfl⟩)
    refine E.OW.pure rfl rfl rfl (E.PV.move rfl rfl) ?_
    all_goals (refine E.OW.put 32 (.bool true) (v := .bool true) rfl rfl ?_)
    all_goals (refine E.OW.buildSlice (Et := 3) (sz := 1) (cs := E.ints ([5, 6, 7, 8, 3, 4])) (ps := [(0, .const (.int .i64 5)), (1, .const (.int .i64 6)), (2, .const (.int .i64 7)), (3, .const (.int .i64 8)), (4, .const (.int .i64 3)), (5, .const (.int .i64 4))]) rfl rfl rfl rfl rfl rfl (by unfold maxLen; omega) (fun w => bsl31_6_0_1_2_3_4_5 _ _ _ _ _ _ w) (fun A2 => ?_); refine E.OW.chunk 0 (E.HP.row 3 1 A2 (List.length ([5, 6, 7, 8, 3, 4])) 6 (E.ints ([5, 6, 7, 8, 3, 4]))) rfl rfl ?_; refine E.OW.put 33 (.slice A2 (List.length ([5, 6, 7, 8, 3, 4])) 6) rfl rfl ?_)
    all_goals ((refine E.OW.call nm81 rfl rfl rfl rfl rfl rfl _ (fun w hw => goes_ok 5 4 5 _ _ [5, 6, 7, 8, 3, 4] w (by omega) ?_ (by decide) Rt.ex_5) ?_; (focus (exact hw.rdrow (i := 0) rfl)); rintro _ _ ⟨rfl, rfl⟩))
    all_goals (refine E.OW.pure rfl rfl rfl (E.PV.pick_t rfl rfl rfl) ?_)
    all_goals (refine E.OW.pure rfl rfl rfl (E.PV.move rfl rfl) ?_)
    all_goals (refine E.OW.put 36 (.bool true) (v := .bool true) rfl rfl ?_)
    all_goals (refine E.OW.buildSlice (Et := 3) (sz := 1) (cs := E.ints ([5, 5, 5, 5, 6, 1, 2, 3, 4])) (ps := [(0, .const (.int .i64 5)), (1, .const (.int .i64 5)), (2, .const (.int .i64 5)), (3, .const (.int .i64 5)), (4, .const (.int .i64 6)), (5, .const (.int .i64 1)), (6, .const (.int .i64 2)), (7, .const (.int .i64 3)), (8, .const (.int .i64 4))]) rfl rfl rfl rfl rfl rfl (by unfold maxLen; omega) (fun w => bsl31_9_0_1_2_3_4_5_6_7_8 _ _ _ _ _ _ _ _ _ w) (fun A3 => ?_); refine E.OW.chunk 0 (E.HP.row 3 1 A3 (List.length ([5, 5, 5, 5, 6, 1, 2, 3, 4])) 9 (E.ints ([5, 5, 5, 5, 6, 1, 2, 3, 4]))) rfl rfl ?_; refine E.OW.put 37 (.slice A3 (List.length ([5, 5, 5, 5, 6, 1, 2, 3, 4])) 9) rfl rfl ?_)
    all_goals ((refine E.OW.call nm81 rfl rfl rfl rfl rfl rfl _ (fun w hw => goes_ok 5 4 0 _ _ [5, 5, 5, 5, 6, 1, 2, 3, 4] w (by omega) ?_ (by decide) Rt.ex_0) ?_; (focus (exact hw.rdrow (i := 0) rfl)); rintro _ _ ⟨rfl, rfl⟩))
    all_goals (refine E.OW.pure rfl rfl rfl (E.PV.pick_t rfl rfl rfl) ?_)
    all_goals (refine E.OW.pure rfl rfl rfl (E.PV.move rfl rfl) ?_)
    all_goals (refine E.OW.put 40 (.bool true) (v := .bool true) rfl rfl ?_)
    all_goals (refine E.OW.buildSlice (Et := 3) (sz := 1) (cs := E.ints ([4])) (ps := [(0, .const (.int .i64 4))]) rfl rfl rfl rfl rfl rfl (by unfold maxLen; omega) (fun w => bsl31_1_0 _ w) (fun A4 => ?_); refine E.OW.chunk 0 (E.HP.row 3 1 A4 (List.length ([4])) 1 (E.ints ([4]))) rfl rfl ?_; refine E.OW.put 41 (.slice A4 (List.length ([4])) 1) rfl rfl ?_)
    all_goals ((refine E.OW.call nm81 rfl rfl rfl rfl rfl rfl _ (fun w hw => goes_ok 4 4 0 _ _ [4] w (by omega) ?_ (by decide) Rt.ex_s) ?_; (focus (exact hw.rdrow (i := 0) rfl)); rintro _ _ ⟨rfl, rfl⟩))
    all_goals (refine E.OW.pure rfl rfl rfl (E.PV.pick_t rfl rfl rfl) ?_)
    all_goals (refine E.OW.pure rfl rfl rfl (E.PV.assign rfl rfl) ?_)
    all_goals (
      refine E.OW.nil ?_
      refine E.then_n ?_
      refine E.CW.seq ?_
      refine E.CW.region ?_
      refine E.OW.pure rfl rfl rfl (E.PV.move rfl rfl) ?_
      refine E.OW.pure rfl rfl rfl (E.PV.move rfl rfl) ?_
      all_goals (refine E.OW.put 45 (.bool true) (v := .bool true) rfl rfl ?_)
      all_goals (refine E.OW.pure rfl rfl rfl (E.PV.move rfl rfl) ?_)
      all_goals (refine E.OW.pure rfl rfl rfl (E.PV.pick_t rfl rfl rfl) ?_)
      all_goals (refine E.OW.pure rfl rfl rfl (E.PV.assign rfl rfl) ?_)
      all_goals (
        refine E.OW.nil ?_
        refine E.then_n ?_
        refine E.CW.ret ?_
        refine E.KR.one [] Try.results38 rfl rfl ?_
        exact ⟨by first | rfl | (simp; done), rfl⟩)))
end Go.Proofs.Ytflkbabhbnmajaa

/- Branches inside a region that meet again: the rest of the region is walked once. -/
set_option linter.unusedSimpArgs false
set_option linter.unusedVariables false
namespace Go.Proofs.Ytflkbabhbnmajaa
namespace E
open Go Go.RowKit
section
variable {P : Program} {n : Fr} {w0 : World} {F : Nat → Prop} {K : Kt} {l : Env} {H : List HP} {o : Oper}
theorem OW.cov {ops : Array Oper} {rest : List Oper} {l' : Env} (hc : Cov l l') (h : OW P n w0 F ops K rest l' H) : OW P n w0 F ops K rest l H := fun a w ha hw => h a w (ha.cov hc) hw
theorem QW.cov {ops : Array Oper} {rest : List Oper} {l' : Env} (hc : Cov l l') (h : QW P n w0 F ops K rest l' H) : QW P n w0 F ops K rest l H := fun a ha => h a (ha.cov hc)
theorem OW.join {ops : Array Oper} {rest : List Oper} (m : Nat) (ks : List Nat) {keep : Env} (_hk : pick l ks = some keep) (mods : Env) (h : OW P n w0 F ops K (rest.drop m) (mods ++ keep) H → OW P n w0 F ops K rest l H) (hr : OW P n w0 F ops K (rest.drop m) (mods ++ keep) H) : OW P n w0 F ops K rest l H := h hr
theorem QW.join {ops : Array Oper} {rest : List Oper} (m : Nat) (ks : List Nat) {keep : Env} (_hk : pick l ks = some keep) (mods : Env) (h : QW P n w0 F ops K (rest.drop m) (mods ++ keep) H → QW P n w0 F ops K rest l H) (hr : QW P n w0 F ops K (rest.drop m) (mods ++ keep) H) : QW P n w0 F ops K rest l H := h hr
end
end E
end Go.Proofs.Ytflkbabhbnmajaa

/- Closed facts on the program (printed by gen.py). -/
namespace Go.Proofs.Ytflkbabhbnmajaa
open Go Go.RowKit
set_option linter.unusedSimpArgs false
set_option linter.unusedVariables false
theorem nm38 : E.Nm Try.prog 38 := ⟨Try.f38, Try.func38, rfl, by kernel_rfl⟩
end Go.Proofs.Ytflkbabhbnmajaa

/- Walks (printed by gen.py). -/
namespace Go.Proofs.Ytflkbabhbnmajaa
open Go Go.RowKit
set_option linter.unusedSimpArgs false
set_option linter.unusedVariables false

set_option maxRecDepth 100000 in
theorem RouteApart_ok (g : E.Cfg) (t u p q tick : Int) (w0 : World) (hg : g.rd w0 (E.Old w0)) (hgf : g.q.fit) (ht : 0 ≤ tick ∧ tick < 18446744073709551616) :
    Calls Try.prog 7 #[g.v, .int .i64 t, .int .i64 u, .int .i64 p, .int .i64 q, .int .u64 tick] w0 (E.Post w0 (E.Old w0) fun v Hn => v = .bool true ∧ Hn = []) := by
  obtain ⟨hX1, hX2, hX3, hX4⟩ := id hg
  have hgl := E.Cfg.fit_len hgf
  refine E.calls_of (vs := [g.v, .int .i64 t, .int .i64 u, .int .i64 p, .int .i64 q, .int .u64 tick]) (H := []) Try.func7 Try.ntmps7 rfl rfl (E.HA.start w0) ?_
  refine E.CW.seq ?_
  refine E.CW.region ?_
  refine E.OW.box rfl rfl rfl rfl rfl rfl (fun B1 => ?_)
  refine E.OW.pure rfl rfl rfl (E.PV.assign rfl rfl) ?_
  refine E.OW.nil ?_
  refine E.then_n ?_
  refine E.CW.seq ?_
  refine E.CW.region ?_
  (refine E.OW.call nm38 rfl rfl rfl rfl rfl rfl _ (fun w hw => alive4_ok w) ?_; rintro _ _ ⟨rfl, rfl⟩)
  refine E.OW.pure rfl rfl rfl (E.PV.assign rfl rfl) ?_
  refine E.OW.nil ?_
  refine E.then_n ?_
  refine E.CW.seq ?_
  refine E.CW.seq ?_
  refine E.CW.region ?_
  refine E.OW.pure rfl rfl rfl (E.PV.loads (i := 0) is28 rfl rfl rfl rfl) ?_
  (refine E.OW.call nm19 rfl rfl rfl rfl rfl rfl _ (fun w hw => Gt_ok _ w ?_ ?_) ?_; (focus (refine hw.rdC ?_; assumption)); (focus (assumption)); rintro _ _ ⟨bG, rfl, rfl⟩)
  refine E.OW.pure rfl rfl rfl (E.PV.move rfl rfl) ?_
  all_goals (refine E.OW.split 27 rfl (fun hc => ?_) (fun hc => ?_) <;> (try simp only [E.b0, E.b1, E.b2, E.b3, E.b4, E.b5, E.b6, E.b7, E.b8, E.b9, E.b10, E.b11, E.b12, E.b13, E.b14, E.b15, E.b16, E.b17, E.b18, E.b19, E.b20, reduceCtorEq] at hc) <;> (try (exfalso; first | assumption | contradiction | omega)))
  all_goals (first | (refine E.OW.off rfl rfl rfl ?_) | (refine E.OW.pure rfl rfl rfl (E.PV.move rfl rfl) ?_))
  all_goals (first | (refine E.OW.off rfl rfl rfl ?_) | (refine E.OW.pure rfl rfl rfl (E.PV.move rfl rfl) ?_))
  all_goals (first | (refine E.OW.off rfl rfl rfl ?_) | (refine E.OW.pure rfl rfl rfl (E.PV.eql rfl rfl rfl) ?_))
  all_goals (first | (refine E.OW.pure rfl rfl rfl (E.PV.pick_t rfl rfl rfl) ?_) | (refine E.OW.pure rfl rfl rfl (E.PV.pick_f rfl rfl rfl) ?_))
  all_goals (refine E.OW.pure rfl rfl rfl (E.PV.move rfl rfl) ?_)
  all_goals (first | (refine E.OW.put 32 (.bool true) (v := .bool true) rfl rfl ?_) | (refine E.OW.split 32 rfl (fun hc => ?_) (fun hc => ?_) <;> (try simp only [E.b0, E.b1, E.b2, E.b3, E.b4, E.b5, E.b6, E.b7, E.b8, E.b9, E.b10, E.b11, E.b12, E.b13, E.b14, E.b15, E.b16, E.b17, E.b18, E.b19, E.b20, reduceCtorEq] at hc) <;> (try (exfalso; first | assumption | contradiction | omega))))
  all_goals (first | (refine E.OW.off rfl rfl rfl ?_) | (refine E.OW.pure rfl rfl rfl (E.PV.move rfl rfl) ?_))
  all_goals (first | (refine E.OW.off rfl rfl rfl ?_) | (refine E.OW.pure rfl rfl rfl (E.PV.geq rfl rfl rfl) ?_))
  all_goals (first | (refine E.OW.pure rfl rfl rfl (E.PV.pick_t rfl rfl rfl) ?_) | (refine E.OW.pure rfl rfl rfl (E.PV.pick_f rfl rfl rfl) ?_))
  all_goals (refine E.OW.pure rfl rfl rfl (E.PV.move rfl rfl) ?_)
  all_goals (first | (refine E.OW.put 36 (.bool true) (v := .bool true) rfl rfl ?_) | (refine E.OW.split 36 rfl (fun hc => ?_) (fun hc => ?_) <;> (try simp only [E.b0, E.b1, E.b2, E.b3, E.b4, E.b5, E.b6, E.b7, E.b8, E.b9, E.b10, E.b11, E.b12, E.b13, E.b14, E.b15, E.b16, E.b17, E.b18, E.b19, E.b20, reduceCtorEq] at hc) <;> (try (exfalso; first | assumption | contradiction | omega))))
  all_goals (first | (refine E.OW.off rfl rfl rfl ?_) | (refine E.OW.pure rfl rfl rfl (E.PV.move rfl rfl) ?_))
  all_goals (first | (refine E.OW.off rfl rfl rfl ?_) | (refine E.OW.pure rfl rfl rfl (E.PV.not rfl rfl) ?_))
  all_goals (first | (refine E.OW.pure rfl rfl rfl (E.PV.pick_t rfl rfl rfl) ?_) | (refine E.OW.pure rfl rfl rfl (E.PV.pick_f rfl rfl rfl) ?_))
  all_goals (
    refine E.OW.nil ?_
    refine E.then_n ?_
    refine E.CW.cond rfl (fun hc => ?_) (fun hc => ?_)
    · first | ((cases hc; done)) | (simp only [E.b0, E.b1, E.b2, E.b3, E.b4, E.b5, E.b6, E.b7, E.b8, E.b9, E.b10, E.b11, E.b12, E.b13, E.b14, E.b15, E.b16, E.b17, E.b18, E.b19, E.b20, reduceCtorEq] at hc)
      all_goals (
        refine E.CW.seq ?_
        refine E.CW.region ?_
        refine E.OW.pure rfl rfl rfl (E.PV.move rfl rfl) ?_
        refine E.OW.pure rfl rfl rfl (E.PV.assign rfl rfl) ?_
        refine E.OW.nil ?_
        refine E.then_n ?_
        refine E.CW.ret ?_
        refine E.then_ret ?_
        refine E.KR.one [] Try.results7 rfl rfl ?_
        exact ⟨by first | rfl | (simp_all; done), rfl⟩)
    · first | ((cases hc; done)) | (simp only [E.b0, E.b1, E.b2, E.b3, E.b4, E.b5, E.b6, E.b7, E.b8, E.b9, E.b10, E.b11, E.b12, E.b13, E.b14, E.b15, E.b16, E.b17, E.b18, E.b19, E.b20, reduceCtorEq] at hc)
      all_goals (
        refine E.CW.skip ?_
        refine E.then_n ?_
        refine E.CW.seq ?_
        refine E.CW.region ?_
        refine E.OW.pure rfl rfl rfl (E.PV.loads (i := 0) is28 rfl rfl rfl rfl) ?_
        refine E.OW.pure rfl rfl rfl (E.PV.move rfl rfl) ?_
        refine E.OW.pure rfl rfl rfl (E.PV.move rfl rfl) ?_
        refine E.OW.pure rfl rfl rfl (E.PV.move rfl rfl) ?_
        (refine E.OW.call nm31 rfl rfl rfl rfl rfl rfl _ (fun w hw => Ad_ok g t p tick w ?_ ?_ (by omega)) ?_; (focus (refine hw.rdC ?_; assumption)); (focus (assumption)); rintro _ _ ⟨rfl, rfl⟩)
        refine E.OW.pure rfl rfl rfl (E.PV.move rfl rfl) ?_
        refine E.OW.pure rfl rfl rfl (E.PV.extract rfl rfl rfl) ?_
        refine E.OW.pure rfl rfl rfl (E.PV.extract rfl rfl rfl) ?_
        refine E.OW.pure rfl rfl rfl (E.PV.assign rfl rfl) ?_
        refine E.OW.pure rfl rfl rfl (E.PV.assign rfl rfl) ?_
        refine E.OW.nil ?_
        refine E.then_n ?_
        refine E.CW.seq ?_
        refine E.CW.region ?_
        refine E.OW.pure rfl rfl rfl (E.PV.loads (i := 0) is28 rfl rfl rfl rfl) ?_
        refine E.OW.pure rfl rfl rfl (E.PV.move rfl rfl) ?_
        refine E.OW.pure rfl rfl rfl (E.PV.move rfl rfl) ?_
        refine E.OW.pure rfl rfl rfl (E.PV.move rfl rfl) ?_
        (refine E.OW.call nm31 rfl rfl rfl rfl rfl rfl _ (fun w hw => Ad_ok g u p tick w ?_ ?_ (by omega)) ?_; (focus (refine hw.rdC ?_; assumption)); (focus (assumption)); rintro _ _ ⟨rfl, rfl⟩)
        refine E.OW.pure rfl rfl rfl (E.PV.move rfl rfl) ?_
        refine E.OW.pure rfl rfl rfl (E.PV.extract rfl rfl rfl) ?_
        refine E.OW.pure rfl rfl rfl (E.PV.extract rfl rfl rfl) ?_
        refine E.OW.pure rfl rfl rfl (E.PV.assign rfl rfl) ?_
        refine E.OW.pure rfl rfl rfl (E.PV.assign rfl rfl) ?_
        refine E.OW.nil ?_
        refine E.then_n ?_
        refine E.CW.seq ?_
        refine E.CW.region ?_
        refine E.OW.pure rfl rfl rfl (E.PV.loads (i := 0) is28 rfl rfl rfl rfl) ?_
        refine E.OW.pure rfl rfl rfl (E.PV.move rfl rfl) ?_
        refine E.OW.pure rfl rfl rfl (E.PV.move rfl rfl) ?_
        refine E.OW.pure rfl rfl rfl (E.PV.move rfl rfl) ?_
        (refine E.OW.call nm31 rfl rfl rfl rfl rfl rfl _ (fun w hw => Ad_ok g u q tick w ?_ ?_ (by omega)) ?_; (focus (refine hw.rdC ?_; assumption)); (focus (assumption)); rintro _ _ ⟨rfl, rfl⟩)
        refine E.OW.pure rfl rfl rfl (E.PV.move rfl rfl) ?_
        refine E.OW.pure rfl rfl rfl (E.PV.extract rfl rfl rfl) ?_
        refine E.OW.pure rfl rfl rfl (E.PV.extract rfl rfl rfl) ?_
        refine E.OW.pure rfl rfl rfl (E.PV.assign rfl rfl) ?_
        refine E.OW.pure rfl rfl rfl (E.PV.assign rfl rfl) ?_
        refine E.OW.nil ?_
        refine E.then_n ?_
        refine E.CW.seq ?_
        refine E.CW.region ?_
        refine E.OW.pure rfl rfl rfl (E.PV.loads (i := 0) is28 rfl rfl rfl rfl) ?_
        refine E.OW.pure rfl rfl rfl (E.PV.move rfl rfl) ?_
        refine E.OW.pure rfl rfl rfl (E.PV.move rfl rfl) ?_
        refine E.OW.pure rfl rfl rfl (E.PV.move rfl rfl) ?_
        refine E.OW.pure rfl rfl rfl (E.PV.add_u64 rfl rfl rfl ?_) ?_; (focus (omega))
        (refine E.OW.call nm31 rfl rfl rfl rfl rfl rfl _ (fun w hw => Ad_ok g t q (tick + 1) w ?_ ?_ (by omega)) ?_; (focus (refine hw.rdC ?_; assumption)); (focus (assumption)); rintro _ _ ⟨rfl, rfl⟩)
        refine E.OW.pure rfl rfl rfl (E.PV.move rfl rfl) ?_
        refine E.OW.pure rfl rfl rfl (E.PV.extract rfl rfl rfl) ?_
        refine E.OW.pure rfl rfl rfl (E.PV.extract rfl rfl rfl) ?_
        refine E.OW.pure rfl rfl rfl (E.PV.assign rfl rfl) ?_
        refine E.OW.pure rfl rfl rfl (E.PV.assign rfl rfl) ?_
        refine E.OW.nil ?_
        refine E.then_n ?_
        refine E.CW.seq ?_
        refine E.CW.region ?_
        refine E.OW.pure rfl rfl rfl (E.PV.loads (i := 0) is28 rfl rfl rfl rfl) ?_
        refine E.OW.pure rfl rfl rfl (E.PV.move rfl rfl) ?_
        refine E.OW.pure rfl rfl rfl (E.PV.move rfl rfl) ?_
        refine E.OW.pure rfl rfl rfl (E.PV.move rfl rfl) ?_
        refine E.OW.pure rfl rfl rfl (E.PV.add_u64 rfl rfl rfl ?_) ?_; (focus (omega))
        (refine E.OW.call nm31 rfl rfl rfl rfl rfl rfl _ (fun w hw => Ad_ok g u p (tick + 1) w ?_ ?_ (by omega)) ?_; (focus (refine hw.rdC ?_; assumption)); (focus (assumption)); rintro _ _ ⟨rfl, rfl⟩)
        refine E.OW.pure rfl rfl rfl (E.PV.move rfl rfl) ?_
        refine E.OW.pure rfl rfl rfl (E.PV.extract rfl rfl rfl) ?_
        refine E.OW.pure rfl rfl rfl (E.PV.extract rfl rfl rfl) ?_
        refine E.OW.pure rfl rfl rfl (E.PV.assign rfl rfl) ?_
        refine E.OW.pure rfl rfl rfl (E.PV.assign rfl rfl) ?_
        refine E.OW.nil ?_
        refine E.then_n ?_
        refine E.CW.seq ?_
        refine E.CW.seq ?_
        have he0 : ¬ (Rt.allowed g.q t p tick).2 = 0 → (Rt.allowed g.q t p tick).1 = false := fun h => Rt.al_err h
        have he1 : ¬ (Rt.allowed g.q u p tick).2 = 0 → (Rt.allowed g.q u p tick).1 = false := fun h => Rt.al_err h
        have he2 : ¬ (Rt.allowed g.q u q tick).2 = 0 → (Rt.allowed g.q u q tick).1 = false := fun h => Rt.al_err h
        have he3 : ¬ (Rt.allowed g.q t q (tick + 1)).2 = 0 → (Rt.allowed g.q t q (tick + 1)).1 = false := fun h => Rt.al_err h
        have he4 : ¬ (Rt.allowed g.q u p (tick + 1)).2 = 0 → (Rt.allowed g.q u p (tick + 1)).1 = false := fun h => Rt.al_err h
        refine E.CW.region ?_
        refine E.OW.pure rfl rfl rfl (E.PV.move rfl rfl) ?_
        refine E.OW.pure rfl rfl rfl (E.PV.neq rfl rfl rfl) ?_
        refine E.OW.pure rfl rfl rfl (E.PV.move rfl rfl) ?_
        refine E.OW.join 2 [3, 4, 13, 14, 16, 17, 18, 19, 20, 21, 22, 23] rfl [(87, .bool false)] (fun hm => ?_) ?_
        · skip
          all_goals (refine E.OW.split 85 rfl (fun hc => ?_) (fun hc => ?_) <;> (try simp only [E.b0, E.b1, E.b2, E.b3, E.b4, E.b5, E.b6, E.b7, E.b8, E.b9, E.b10, E.b11, E.b12, E.b13, E.b14, E.b15, E.b16, E.b17, E.b18, E.b19, E.b20, reduceCtorEq] at hc) <;> (try (exfalso; first | assumption | contradiction | omega)))
          all_goals (first | (refine E.OW.off rfl rfl rfl ?_) | (refine E.OW.pure rfl rfl rfl (E.PV.move rfl rfl) ?_))
          all_goals (first | (refine E.OW.pure rfl rfl rfl (E.PV.pick_t rfl rfl rfl) ?_) | (refine E.OW.pure rfl rfl rfl (E.PV.pick_f rfl rfl rfl) ?_))
          all_goals (refine E.OW.put 87 (.bool false) rfl (by first | rfl | exact congrArg Value.bool (by first | assumption | omega | (simp; done) | (simp_all; done))) ?_)
          all_goals (exact E.OW.cov (by repeat (first | exact E.cov_nil | refine ⟨rfl, ?_⟩)) hm)
        refine E.OW.pure rfl rfl rfl (E.PV.move rfl rfl) ?_
        all_goals (refine E.OW.put 88 (.bool false) (v := .bool false) rfl rfl ?_)
        all_goals (refine E.OW.pure rfl rfl rfl (E.PV.move rfl rfl) ?_)
        all_goals (refine E.OW.pure rfl rfl rfl (E.PV.neq rfl rfl rfl) ?_)
        all_goals (refine E.OW.pure rfl rfl rfl (E.PV.move rfl rfl) ?_)
        refine E.OW.join 2 [3, 4, 13, 14, 16, 18, 19, 20, 21, 22, 23, 88] rfl [(93, .bool false)] (fun hm => ?_) ?_
        · skip
          all_goals (refine E.OW.split 91 rfl (fun hc => ?_) (fun hc => ?_) <;> (try simp only [E.b0, E.b1, E.b2, E.b3, E.b4, E.b5, E.b6, E.b7, E.b8, E.b9, E.b10, E.b11, E.b12, E.b13, E.b14, E.b15, E.b16, E.b17, E.b18, E.b19, E.b20, reduceCtorEq] at hc) <;> (try (exfalso; first | assumption | contradiction | omega)))
          all_goals (first | (refine E.OW.off rfl rfl rfl ?_) | (refine E.OW.pure rfl rfl rfl (E.PV.move rfl rfl) ?_))
          all_goals (first | (refine E.OW.pure rfl rfl rfl (E.PV.pick_t rfl rfl rfl) ?_) | (refine E.OW.pure rfl rfl rfl (E.PV.pick_f rfl rfl rfl) ?_))
          all_goals (refine E.OW.put 93 (.bool false) rfl (by first | rfl | exact congrArg Value.bool (by first | assumption | omega | (simp; done) | (simp_all; done))) ?_)
          all_goals (exact E.OW.cov (by repeat (first | exact E.cov_nil | refine ⟨rfl, ?_⟩)) hm)
        all_goals (refine E.OW.pure rfl rfl rfl (E.PV.pick_f rfl rfl rfl) ?_)
        all_goals (refine E.OW.pure rfl rfl rfl (E.PV.move rfl rfl) ?_)
        all_goals (refine E.OW.put 95 (.bool false) (v := .bool false) rfl rfl ?_)
        all_goals (refine E.OW.pure rfl rfl rfl (E.PV.move rfl rfl) ?_)
        all_goals (refine E.OW.pure rfl rfl rfl (E.PV.neq rfl rfl rfl) ?_)
        all_goals (refine E.OW.pure rfl rfl rfl (E.PV.move rfl rfl) ?_)
        refine E.OW.join 2 [3, 4, 13, 14, 16, 18, 20, 21, 22, 23, 95] rfl [(100, .bool false)] (fun hm => ?_) ?_
        · skip
          all_goals (refine E.OW.split 98 rfl (fun hc => ?_) (fun hc => ?_) <;> (try simp only [E.b0, E.b1, E.b2, E.b3, E.b4, E.b5, E.b6, E.b7, E.b8, E.b9, E.b10, E.b11, E.b12, E.b13, E.b14, E.b15, E.b16, E.b17, E.b18, E.b19, E.b20, reduceCtorEq] at hc) <;> (try (exfalso; first | assumption | contradiction | omega)))
          all_goals (first | (refine E.OW.off rfl rfl rfl ?_) | (refine E.OW.pure rfl rfl rfl (E.PV.move rfl rfl) ?_))
          all_goals (first | (refine E.OW.pure rfl rfl rfl (E.PV.pick_t rfl rfl rfl) ?_) | (refine E.OW.pure rfl rfl rfl (E.PV.pick_f rfl rfl rfl) ?_))
          all_goals (refine E.OW.put 100 (.bool false) rfl (by first | rfl | exact congrArg Value.bool (by first | assumption | omega | (simp; done) | (simp_all; done))) ?_)
          all_goals (exact E.OW.cov (by repeat (first | exact E.cov_nil | refine ⟨rfl, ?_⟩)) hm)
        all_goals (refine E.OW.pure rfl rfl rfl (E.PV.pick_f rfl rfl rfl) ?_)
        all_goals (refine E.OW.pure rfl rfl rfl (E.PV.move rfl rfl) ?_)
        all_goals (refine E.OW.put 102 (.bool false) (v := .bool false) rfl rfl ?_)
        all_goals (refine E.OW.pure rfl rfl rfl (E.PV.move rfl rfl) ?_)
        all_goals (refine E.OW.pure rfl rfl rfl (E.PV.neq rfl rfl rfl) ?_)
        all_goals (refine E.OW.pure rfl rfl rfl (E.PV.move rfl rfl) ?_)
        refine E.OW.join 2 [3, 4, 13, 14, 16, 18, 20, 22, 23, 102] rfl [(107, .bool false)] (fun hm => ?_) ?_
        · skip
          all_goals (refine E.OW.split 105 rfl (fun hc => ?_) (fun hc => ?_) <;> (try simp only [E.b0, E.b1, E.b2, E.b3, E.b4, E.b5, E.b6, E.b7, E.b8, E.b9, E.b10, E.b11, E.b12, E.b13, E.b14, E.b15, E.b16, E.b17, E.b18, E.b19, E.b20, reduceCtorEq] at hc) <;> (try (exfalso; first | assumption | contradiction | omega)))
          all_goals (first | (refine E.OW.off rfl rfl rfl ?_) | (refine E.OW.pure rfl rfl rfl (E.PV.move rfl rfl) ?_))
          all_goals (first | (refine E.OW.pure rfl rfl rfl (E.PV.pick_t rfl rfl rfl) ?_) | (refine E.OW.pure rfl rfl rfl (E.PV.pick_f rfl rfl rfl) ?_))
          all_goals (refine E.OW.put 107 (.bool false) rfl (by first | rfl | exact congrArg Value.bool (by first | assumption | omega | (simp; done) | (simp_all; done))) ?_)
          all_goals (exact E.OW.cov (by repeat (first | exact E.cov_nil | refine ⟨rfl, ?_⟩)) hm)
        all_goals (refine E.OW.pure rfl rfl rfl (E.PV.pick_f rfl rfl rfl) ?_)
        all_goals (refine E.OW.pure rfl rfl rfl (E.PV.move rfl rfl) ?_)
        all_goals (refine E.OW.put 109 (.bool false) (v := .bool false) rfl rfl ?_)
        all_goals (refine E.OW.pure rfl rfl rfl (E.PV.move rfl rfl) ?_)
        all_goals (refine E.OW.pure rfl rfl rfl (E.PV.neq rfl rfl rfl) ?_)
        all_goals (refine E.OW.pure rfl rfl rfl (E.PV.move rfl rfl) ?_)
        refine E.OW.join 2 [3, 4, 13, 14, 16, 18, 20, 22, 109] rfl [(114, .bool false)] (fun hm => ?_) ?_
        · skip
          all_goals (refine E.OW.split 112 rfl (fun hc => ?_) (fun hc => ?_) <;> (try simp only [E.b0, E.b1, E.b2, E.b3, E.b4, E.b5, E.b6, E.b7, E.b8, E.b9, E.b10, E.b11, E.b12, E.b13, E.b14, E.b15, E.b16, E.b17, E.b18, E.b19, E.b20, reduceCtorEq] at hc) <;> (try (exfalso; first | assumption | contradiction | omega)))
          all_goals (first | (refine E.OW.off rfl rfl rfl ?_) | (refine E.OW.pure rfl rfl rfl (E.PV.move rfl rfl) ?_))
          all_goals (first | (refine E.OW.pure rfl rfl rfl (E.PV.pick_t rfl rfl rfl) ?_) | (refine E.OW.pure rfl rfl rfl (E.PV.pick_f rfl rfl rfl) ?_))
          all_goals (refine E.OW.put 114 (.bool false) rfl (by first | rfl | exact congrArg Value.bool (by first | assumption | omega | (simp; done) | (simp_all; done))) ?_)
          all_goals (exact E.OW.cov (by repeat (first | exact E.cov_nil | refine ⟨rfl, ?_⟩)) hm)
        all_goals (refine E.OW.pure rfl rfl rfl (E.PV.pick_f rfl rfl rfl) ?_)
        all_goals (
          refine E.OW.nil ?_
          refine E.then_n ?_
          refine E.CW.cond rfl (fun hc => ?_) (fun hc => ?_)
          · (cases hc; done)
          · simp only [E.b0, E.b1, E.b2, E.b3, E.b4, E.b5, E.b6, E.b7, E.b8, E.b9, E.b10, E.b11, E.b12, E.b13, E.b14, E.b15, E.b16, E.b17, E.b18, E.b19, E.b20, reduceCtorEq] at hc
            all_goals (
              refine E.CW.skip ?_
              refine E.then_n ?_
              refine E.CW.seq ?_
              have hx1 : ¬ ((Rt.allowed g.q t p tick).1 = true ∧ (Rt.allowed g.q u p tick).1 = true) := fun h => Rt.apart1 (by assumption) h.1 h.2
              have hx2 : ¬ ((Rt.allowed g.q t p tick).1 = true ∧ (Rt.allowed g.q u q tick).1 = true ∧ (Rt.allowed g.q t q (tick + 1)).1 = true ∧ (Rt.allowed g.q u p (tick + 1)).1 = true) := fun h => Rt.apart2 (by assumption) h.1 h.2.1 h.2.2.1 h.2.2.2
              refine E.CW.region ?_
              refine E.OW.pure rfl rfl rfl (E.PV.move rfl rfl) ?_
              refine E.OW.pure rfl rfl rfl (E.PV.move rfl rfl) ?_
              all_goals (refine E.OW.put 117 (.bool true) (v := .bool true) rfl rfl ?_)
              all_goals (refine E.OW.pure rfl rfl rfl (E.PV.move rfl rfl) ?_)
              all_goals (refine E.OW.pure rfl rfl rfl (E.PV.move rfl rfl) ?_)
              refine E.OW.join 2 [3, 4, 14, 18, 20, 22, 117] rfl [(121, .bool false)] (fun hm => ?_) ?_
              · skip
                all_goals (refine E.OW.split 119 rfl (fun hc => ?_) (fun hc => ?_) <;> (try simp only [E.b0, E.b1, E.b2, E.b3, E.b4, E.b5, E.b6, E.b7, E.b8, E.b9, E.b10, E.b11, E.b12, E.b13, E.b14, E.b15, E.b16, E.b17, E.b18, E.b19, E.b20, reduceCtorEq] at hc) <;> (try (exfalso; first | assumption | contradiction | omega)))
                all_goals (first | (refine E.OW.off rfl rfl rfl ?_) | (refine E.OW.pure rfl rfl rfl (E.PV.move rfl rfl) ?_))
                all_goals (first | (refine E.OW.pure rfl rfl rfl (E.PV.pick_t rfl rfl rfl) ?_) | (refine E.OW.pure rfl rfl rfl (E.PV.pick_f rfl rfl rfl) ?_))
                all_goals (refine E.OW.put 121 (.bool false) rfl (by first | rfl | exact congrArg Value.bool (by first | assumption | omega | (simp; done) | (simp_all; done))) ?_)
                all_goals (exact E.OW.cov (by repeat (first | exact E.cov_nil | refine ⟨rfl, ?_⟩)) hm)
              all_goals (refine E.OW.pure rfl rfl rfl (E.PV.not rfl rfl) ?_)
              all_goals (refine E.OW.pure rfl rfl rfl (E.PV.pick_t rfl rfl rfl) ?_)
              all_goals (refine E.OW.pure rfl rfl rfl (E.PV.move rfl rfl) ?_)
              all_goals (refine E.OW.put 124 (.bool true) (v := .bool true) rfl rfl ?_)
              all_goals (refine E.OW.pure rfl rfl rfl (E.PV.move rfl rfl) ?_)
              all_goals (refine E.OW.pure rfl rfl rfl (E.PV.move rfl rfl) ?_)
              all_goals (refine E.OW.pure rfl rfl rfl (E.PV.eql rfl rfl rfl) ?_)
              all_goals (refine E.OW.pure rfl rfl rfl (E.PV.move rfl rfl) ?_)
              refine E.OW.join 12 [124] rfl [(140, .bool true)] (fun hm => ?_) ?_
              · skip
                all_goals (refine E.OW.split 128 rfl (fun hc => ?_) (fun hc => ?_) <;> (try simp only [E.b0, E.b1, E.b2, E.b3, E.b4, E.b5, E.b6, E.b7, E.b8, E.b9, E.b10, E.b11, E.b12, E.b13, E.b14, E.b15, E.b16, E.b17, E.b18, E.b19, E.b20, reduceCtorEq] at hc) <;> (try (exfalso; first | assumption | contradiction | omega)))
                all_goals (first | (refine E.OW.off rfl rfl rfl ?_) | (refine E.OW.pure rfl rfl rfl (E.PV.move rfl rfl) ?_))
                all_goals (first | (refine E.OW.off rfl rfl rfl ?_) | (refine E.OW.pure rfl rfl rfl (E.PV.move rfl rfl) ?_))
                all_goals (first | (refine E.OW.put 130 (.tuple #[]) (v := .tuple #[]) rfl rfl ?_) | (refine E.OW.split 130 rfl (fun hc => ?_) (fun hc => ?_) <;> (try simp only [E.b0, E.b1, E.b2, E.b3, E.b4, E.b5, E.b6, E.b7, E.b8, E.b9, E.b10, E.b11, E.b12, E.b13, E.b14, E.b15, E.b16, E.b17, E.b18, E.b19, E.b20, reduceCtorEq] at hc) <;> (try (exfalso; first | assumption | contradiction | omega))))
                all_goals (first | (refine E.OW.off rfl rfl rfl ?_) | (refine E.OW.pure rfl rfl rfl (E.PV.move rfl rfl) ?_))
                all_goals (first | (refine E.OW.off rfl rfl rfl ?_) | (first | (refine E.OW.pure rfl rfl rfl (E.PV.pick_t rfl rfl rfl) ?_) | (refine E.OW.pure rfl rfl rfl (E.PV.pick_f rfl rfl rfl) ?_)))
                all_goals (first | (refine E.OW.off rfl rfl rfl ?_) | (refine E.OW.pure rfl rfl rfl (E.PV.move rfl rfl) ?_))
                all_goals (first | (refine E.OW.put 133 (.bool false) (v := .bool false) rfl rfl ?_) | (refine E.OW.put 133 (.tuple #[]) (v := .tuple #[]) rfl rfl ?_) | (refine E.OW.split 133 rfl (fun hc => ?_) (fun hc => ?_) <;> (try simp only [E.b0, E.b1, E.b2, E.b3, E.b4, E.b5, E.b6, E.b7, E.b8, E.b9, E.b10, E.b11, E.b12, E.b13, E.b14, E.b15, E.b16, E.b17, E.b18, E.b19, E.b20, reduceCtorEq] at hc) <;> (try (exfalso; first | assumption | contradiction | omega))))
                all_goals (first | (refine E.OW.off rfl rfl rfl ?_) | (refine E.OW.pure rfl rfl rfl (E.PV.move rfl rfl) ?_))
                all_goals (first | (refine E.OW.off rfl rfl rfl ?_) | (first | (refine E.OW.pure rfl rfl rfl (E.PV.pick_t rfl rfl rfl) ?_) | (refine E.OW.pure rfl rfl rfl (E.PV.pick_f rfl rfl rfl) ?_)))
                all_goals (first | (refine E.OW.off rfl rfl rfl ?_) | (refine E.OW.pure rfl rfl rfl (E.PV.move rfl rfl) ?_))
                all_goals (first | (refine E.OW.put 136 (.bool false) (v := .bool false) rfl rfl ?_) | (refine E.OW.put 136 (.tuple #[]) (v := .tuple #[]) rfl rfl ?_) | (refine E.OW.split 136 rfl (fun hc => ?_) (fun hc => ?_) <;> (try simp only [E.b0, E.b1, E.b2, E.b3, E.b4, E.b5, E.b6, E.b7, E.b8, E.b9, E.b10, E.b11, E.b12, E.b13, E.b14, E.b15, E.b16, E.b17, E.b18, E.b19, E.b20, reduceCtorEq] at hc) <;> (try (exfalso; first | assumption | contradiction | omega))))
                all_goals (first | (refine E.OW.off rfl rfl rfl ?_) | (refine E.OW.pure rfl rfl rfl (E.PV.move rfl rfl) ?_))
                all_goals (first | (refine E.OW.off rfl rfl rfl ?_) | (first | (refine E.OW.pure rfl rfl rfl (E.PV.pick_t rfl rfl rfl) ?_) | (refine E.OW.pure rfl rfl rfl (E.PV.pick_f rfl rfl rfl) ?_)))
                all_goals (first | (refine E.OW.off rfl rfl rfl ?_) | (refine E.OW.pure rfl rfl rfl (E.PV.not rfl rfl) ?_))
                all_goals (first | (refine E.OW.pure rfl rfl rfl (E.PV.pick_t rfl rfl rfl) ?_) | (refine E.OW.pure rfl rfl rfl (E.PV.pick_f rfl rfl rfl) ?_))
                all_goals (refine E.OW.put 140 (.bool true) rfl (by first | rfl | exact congrArg Value.bool (by first | assumption | omega | (simp; done) | (simp_all; done))) ?_)
                all_goals (exact E.OW.cov (by repeat (first | exact E.cov_nil | refine ⟨rfl, ?_⟩)) hm)
              all_goals (refine E.OW.pure rfl rfl rfl (E.PV.pick_t rfl rfl rfl) ?_)
              all_goals (refine E.OW.pure rfl rfl rfl (E.PV.assign rfl rfl) ?_)
              all_goals (
                refine E.OW.nil ?_
                refine E.then_n ?_
                refine E.CW.ret ?_
                refine E.KR.one [] Try.results7 rfl rfl ?_
                exact ⟨by first | rfl | (simp_all; done), rfl⟩)))))
end Go.Proofs.Ytflkbabhbnmajaa

/- Walks (printed by gen.py). -/
namespace Go.Proofs.Ytflkbabhbnmajaa
open Go Go.RowKit
set_option linter.unusedSimpArgs false
set_option linter.unusedVariables false

set_option maxRecDepth 100000 in
theorem RoutePeriod_ok (g : E.Cfg) (t a b p tick : Int) (w0 : World) (hg : g.rd w0 (E.Old w0)) (hgf : g.q.fit) (ht : 0 ≤ tick ∧ tick < 18446744073709551616) :
    Calls Try.prog 8 #[g.v, .int .i64 t, .agg #[.int .i64 a, .int .i64 b], .int .i64 p, .int .u64 tick] w0 (E.Post w0 (E.Old w0) fun v Hn => v = .bool true ∧ Hn = []) := by
  obtain ⟨hX1, hX2, hX3, hX4⟩ := id hg
  have hgl := E.Cfg.fit_len hgf
  have hrl := Rt.routeR_len g.q t a b tick
  refine E.calls_of (vs := [g.v, .int .i64 t, .agg #[.int .i64 a, .int .i64 b], .int .i64 p, .int .u64 tick]) (H := []) Try.func8 Try.ntmps8 rfl rfl (E.HA.start w0) ?_
  refine E.CW.seq ?_
  refine E.CW.region ?_
  refine E.OW.box rfl rfl rfl rfl rfl rfl (fun B1 => ?_)
  refine E.OW.box rfl rfl rfl rfl rfl rfl (fun B2 => ?_)
  refine E.OW.pure rfl rfl rfl (E.PV.assign rfl rfl) ?_
  refine E.OW.nil ?_
  refine E.then_n ?_
  refine E.CW.seq ?_
  refine E.CW.region ?_
  (refine E.OW.call nm38 rfl rfl rfl rfl rfl rfl _ (fun w hw => alive4_ok w) ?_; rintro _ _ ⟨rfl, rfl⟩)
  refine E.OW.pure rfl rfl rfl (E.PV.assign rfl rfl) ?_
  refine E.OW.nil ?_
  refine E.then_n ?_
  refine E.CW.seq ?_
  refine E.CW.seq ?_
  refine E.CW.region ?_
  refine E.OW.pure rfl rfl rfl (E.PV.loads (i := 1) is28 rfl rfl rfl rfl) ?_
  (refine E.OW.call nm19 rfl rfl rfl rfl rfl rfl _ (fun w hw => Gt_ok _ w ?_ ?_) ?_; (focus (refine hw.rdC ?_; assumption)); (focus (assumption)); rintro _ _ ⟨bG, rfl, rfl⟩)
  refine E.OW.pure rfl rfl rfl (E.PV.move rfl rfl) ?_
  all_goals (refine E.OW.split 28 rfl (fun hc => ?_) (fun hc => ?_) <;> (try simp only [E.b0, E.b1, E.b2, E.b3, E.b4, E.b5, E.b6, E.b7, E.b8, E.b9, E.b10, E.b11, E.b12, E.b13, E.b14, E.b15, E.b16, E.b17, E.b18, E.b19, E.b20, reduceCtorEq] at hc) <;> (try (exfalso; first | assumption | contradiction | omega)))
  all_goals (first | (refine E.OW.off rfl rfl rfl ?_) | (refine E.OW.pure rfl rfl rfl (E.PV.move rfl rfl) ?_))
  all_goals (first | (refine E.OW.off rfl rfl rfl ?_) | (refine E.OW.pure rfl rfl rfl (E.PV.gtr rfl rfl rfl) ?_))
  all_goals (first | (refine E.OW.pure rfl rfl rfl (E.PV.pick_t rfl rfl rfl) ?_) | (refine E.OW.pure rfl rfl rfl (E.PV.pick_f rfl rfl rfl) ?_))
  all_goals (refine E.OW.pure rfl rfl rfl (E.PV.move rfl rfl) ?_)
  all_goals (first | (refine E.OW.put 32 (.bool true) (v := .bool true) rfl rfl ?_) | (refine E.OW.split 32 rfl (fun hc => ?_) (fun hc => ?_) <;> (try simp only [E.b0, E.b1, E.b2, E.b3, E.b4, E.b5, E.b6, E.b7, E.b8, E.b9, E.b10, E.b11, E.b12, E.b13, E.b14, E.b15, E.b16, E.b17, E.b18, E.b19, E.b20, reduceCtorEq] at hc) <;> (try (exfalso; first | assumption | contradiction | omega))))
  all_goals (first | (refine E.OW.off rfl rfl rfl ?_) | (refine E.OW.pure rfl rfl rfl (E.PV.move rfl rfl) ?_))
  all_goals (first | (refine E.OW.off rfl rfl rfl ?_) | (refine E.OW.pure rfl rfl rfl (E.PV.not rfl rfl) ?_))
  all_goals (first | (refine E.OW.pure rfl rfl rfl (E.PV.pick_t rfl rfl rfl) ?_) | (refine E.OW.pure rfl rfl rfl (E.PV.pick_f rfl rfl rfl) ?_))
  all_goals (
    refine E.OW.nil ?_
    refine E.then_n ?_
    refine E.CW.cond rfl (fun hc => ?_) (fun hc => ?_)
    · first | ((cases hc; done)) | (simp only [E.b0, E.b1, E.b2, E.b3, E.b4, E.b5, E.b6, E.b7, E.b8, E.b9, E.b10, E.b11, E.b12, E.b13, E.b14, E.b15, E.b16, E.b17, E.b18, E.b19, E.b20, reduceCtorEq] at hc)
      all_goals (
        refine E.CW.seq ?_
        refine E.CW.region ?_
        refine E.OW.pure rfl rfl rfl (E.PV.move rfl rfl) ?_
        refine E.OW.pure rfl rfl rfl (E.PV.assign rfl rfl) ?_
        refine E.OW.nil ?_
        refine E.then_n ?_
        refine E.CW.ret ?_
        refine E.then_ret ?_
        refine E.KR.one [] Try.results8 rfl rfl ?_
        exact ⟨by first | rfl | (simp_all; done), rfl⟩)
    · first | ((cases hc; done)) | (simp only [E.b0, E.b1, E.b2, E.b3, E.b4, E.b5, E.b6, E.b7, E.b8, E.b9, E.b10, E.b11, E.b12, E.b13, E.b14, E.b15, E.b16, E.b17, E.b18, E.b19, E.b20, reduceCtorEq] at hc)
      all_goals (
        refine E.CW.skip ?_
        refine E.then_n ?_
        refine E.CW.seq ?_
        refine E.CW.region ?_
        refine E.OW.pure rfl rfl rfl (E.PV.move rfl rfl) ?_
        refine E.OW.pure rfl rfl rfl (E.PV.fieldAddr fa28_1 rfl rfl) ?_
        refine E.OW.pure rfl rfl rfl (E.PV.load (i := 1) na22 rfl rfl rfl rfl) ?_
        refine E.OW.pure rfl rfl rfl (E.PV.len Try.underlying22 rfl rfl) ?_
        refine E.OW.pure rfl rfl rfl (E.PV.conv_in Try.underlying3 Try.underlying26 rfl rfl ?_) ?_; (focus (first | exact E.wrap_u8 _ | (simp only [IntKind.wrap_i64, IntKind.wrap_u64, IntKind.wrap_u8]; omega)))
        refine E.OW.pure rfl rfl rfl (E.PV.add_u64 rfl rfl rfl ?_) ?_; (focus (omega))
        refine E.OW.pure rfl rfl rfl (E.PV.assign rfl rfl) ?_
        refine E.OW.nil ?_
        refine E.then_n ?_
        refine E.CW.seq ?_
        refine E.CW.region ?_
        refine E.OW.pure rfl rfl rfl (E.PV.loads (i := 1) is28 rfl rfl rfl rfl) ?_
        refine E.OW.pure rfl rfl rfl (E.PV.move rfl rfl) ?_
        refine E.OW.pure rfl rfl rfl (E.PV.move rfl rfl) ?_
        refine E.OW.pure rfl rfl rfl (E.PV.move rfl rfl) ?_
        (refine E.OW.call nm31 rfl rfl rfl rfl rfl rfl _ (fun w hw => Ad_ok g t p tick w ?_ ?_ (by omega)) ?_; (focus (refine hw.rdC ?_; assumption)); (focus (assumption)); rintro _ _ ⟨rfl, rfl⟩)
        refine E.OW.pure rfl rfl rfl (E.PV.move rfl rfl) ?_
        refine E.OW.pure rfl rfl rfl (E.PV.extract rfl rfl rfl) ?_
        refine E.OW.pure rfl rfl rfl (E.PV.extract rfl rfl rfl) ?_
        refine E.OW.pure rfl rfl rfl (E.PV.assign rfl rfl) ?_
        refine E.OW.pure rfl rfl rfl (E.PV.assign rfl rfl) ?_
        refine E.OW.nil ?_
        refine E.then_n ?_
        refine E.CW.seq ?_
        refine E.CW.region ?_
        refine E.OW.pure rfl rfl rfl (E.PV.loads (i := 1) is28 rfl rfl rfl rfl) ?_
        refine E.OW.pure rfl rfl rfl (E.PV.move rfl rfl) ?_
        refine E.OW.pure rfl rfl rfl (E.PV.move rfl rfl) ?_
        refine E.OW.pure rfl rfl rfl (E.PV.move rfl rfl) ?_
        (refine E.OW.call nm31 rfl rfl rfl rfl rfl rfl _ (fun w hw => Ad_ok g t p (tick + (g.s.length : Int)) w ?_ ?_ (by omega)) ?_; (focus (refine hw.rdC ?_; assumption)); (focus (assumption)); rintro _ _ ⟨rfl, rfl⟩)
        refine E.OW.pure rfl rfl rfl (E.PV.move rfl rfl) ?_
        refine E.OW.pure rfl rfl rfl (E.PV.extract rfl rfl rfl) ?_
        refine E.OW.pure rfl rfl rfl (E.PV.extract rfl rfl rfl) ?_
        refine E.OW.pure rfl rfl rfl (E.PV.assign rfl rfl) ?_
        refine E.OW.pure rfl rfl rfl (E.PV.assign rfl rfl) ?_
        refine E.OW.nil ?_
        refine E.then_n ?_
        refine E.CW.seq ?_
        refine E.CW.put 15 (.bool (Rt.allowed g.q t p tick).1) rfl (by rw [show Rt.allowed g.q t p (tick + (g.s.length : Int)) = Rt.allowed g.q t p tick from Rt.allowed_period (by omega)]; rfl) ?_
        refine E.CW.put 16 (.int .i64 (Rt.allowed g.q t p tick).2) rfl (by rw [show Rt.allowed g.q t p (tick + (g.s.length : Int)) = Rt.allowed g.q t p tick from Rt.allowed_period (by omega)]; rfl) ?_
        refine E.CW.region ?_
        refine E.OW.pure rfl rfl rfl (E.PV.loads (i := 1) is28 rfl rfl rfl rfl) ?_
        refine E.OW.pure rfl rfl rfl (E.PV.move rfl rfl) ?_
        refine E.OW.pure rfl rfl rfl (E.PV.loads (i := 0) is30 rfl rfl rfl rfl) ?_
        refine E.OW.pure rfl rfl rfl (E.PV.move rfl rfl) ?_
        (refine E.OW.call nm39 rfl rfl rfl rfl rfl rfl _ (fun w hw => Arv_ok g t a b tick w ?_ ?_ ?_) ?_; (focus (refine hw.rdC ?_; assumption)); (focus (assumption)); (focus (assumption)); rintro _ _ ⟨rfl, rfl⟩)
        refine E.OW.pure rfl rfl rfl (E.PV.move rfl rfl) ?_
        refine E.OW.pure rfl rfl rfl (E.PV.extract rfl rfl rfl) ?_
        refine E.OW.pure rfl rfl rfl (E.PV.extract rfl rfl rfl) ?_
        refine E.OW.pure rfl rfl rfl (E.PV.assign rfl rfl) ?_
        refine E.OW.pure rfl rfl rfl (E.PV.assign rfl rfl) ?_
        refine E.OW.nil ?_
        refine E.then_n ?_
        refine E.CW.seq ?_
        refine E.CW.region ?_
        refine E.OW.pure rfl rfl rfl (E.PV.loads (i := 1) is28 rfl rfl rfl rfl) ?_
        refine E.OW.pure rfl rfl rfl (E.PV.move rfl rfl) ?_
        refine E.OW.pure rfl rfl rfl (E.PV.loads (i := 0) is30 rfl rfl rfl rfl) ?_
        refine E.OW.pure rfl rfl rfl (E.PV.move rfl rfl) ?_
        (refine E.OW.call nm39 rfl rfl rfl rfl rfl rfl _ (fun w hw => Arv_ok g t a b (tick + (g.s.length : Int)) w ?_ ?_ (by omega)) ?_; (focus (refine hw.rdC ?_; assumption)); (focus (assumption)); rintro _ _ ⟨rfl, rfl⟩)
        refine E.OW.pure rfl rfl rfl (E.PV.move rfl rfl) ?_
        refine E.OW.pure rfl rfl rfl (E.PV.extract rfl rfl rfl) ?_
        refine E.OW.pure rfl rfl rfl (E.PV.extract rfl rfl rfl) ?_
        refine E.OW.pure rfl rfl rfl (E.PV.assign rfl rfl) ?_
        refine E.OW.pure rfl rfl rfl (E.PV.assign rfl rfl) ?_
        refine E.OW.nil ?_
        refine E.then_n ?_
        refine E.CW.seq ?_
        refine E.CW.put 19 (.int .i64 (Rt.arrivalR g.q t a b tick).1) rfl (by rw [show Rt.arrivalR g.q t a b (tick + (g.s.length : Int)) = Rt.arrivalR g.q t a b tick from Rt.arrival_period (by omega)]; rfl) ?_
        refine E.CW.put 20 (.int .i64 (Rt.arrivalR g.q t a b tick).2) rfl (by rw [show Rt.arrivalR g.q t a b (tick + (g.s.length : Int)) = Rt.arrivalR g.q t a b tick from Rt.arrival_period (by omega)]; rfl) ?_
        refine E.CW.region ?_
        refine E.OW.pure rfl rfl rfl (E.PV.loads (i := 1) is28 rfl rfl rfl rfl) ?_
        refine E.OW.pure rfl rfl rfl (E.PV.move rfl rfl) ?_
        refine E.OW.pure rfl rfl rfl (E.PV.loads (i := 0) is30 rfl rfl rfl rfl) ?_
        refine E.OW.pure rfl rfl rfl (E.PV.move rfl rfl) ?_
        (refine E.OW.call nm40 rfl rfl rfl rfl rfl rfl _ (fun w hw => Ro_ok g t a b tick w ?_ ?_ ?_) ?_; (focus (refine hw.rdC ?_; assumption)); (focus (assumption)); (focus (assumption)); rintro _ _ ⟨AR0, cR0, rfl, rfl⟩)
        refine E.OW.pure rfl rfl rfl (E.PV.move rfl rfl) ?_
        refine E.OW.pure rfl rfl rfl (E.PV.extract rfl rfl rfl) ?_
        refine E.OW.pure rfl rfl rfl (E.PV.extract rfl rfl rfl) ?_
        refine E.OW.pure rfl rfl rfl (E.PV.assign rfl rfl) ?_
        refine E.OW.pure rfl rfl rfl (E.PV.assign rfl rfl) ?_
        refine E.OW.nil ?_
        refine E.then_n ?_
        refine E.CW.seq ?_
        refine E.CW.region ?_
        refine E.OW.pure rfl rfl rfl (E.PV.loads (i := 2) is28 rfl rfl rfl rfl) ?_
        refine E.OW.pure rfl rfl rfl (E.PV.move rfl rfl) ?_
        refine E.OW.pure rfl rfl rfl (E.PV.loads (i := 1) is30 rfl rfl rfl rfl) ?_
        refine E.OW.pure rfl rfl rfl (E.PV.move rfl rfl) ?_
        (refine E.OW.call nm40 rfl rfl rfl rfl rfl rfl _ (fun w hw => Ro_ok g t a b (tick + (g.s.length : Int)) w ?_ ?_ (by omega)) ?_; (focus (refine hw.rdC ?_; assumption)); (focus (assumption)); rintro _ _ ⟨AR1, cR1, rfl, rfl⟩)
        refine E.OW.pure rfl rfl rfl (E.PV.move rfl rfl) ?_
        refine E.OW.pure rfl rfl rfl (E.PV.extract rfl rfl rfl) ?_
        refine E.OW.pure rfl rfl rfl (E.PV.extract rfl rfl rfl) ?_
        refine E.OW.pure rfl rfl rfl (E.PV.assign rfl rfl) ?_
        refine E.OW.pure rfl rfl rfl (E.PV.assign rfl rfl) ?_
        refine E.OW.nil ?_
        refine E.then_n ?_
        refine E.CW.seq ?_
        refine E.CW.put 23 (.slice AR1 (Rt.routeR g.q t a b tick).1.length cR1) rfl (by rw [show Rt.routeR g.q t a b (tick + (g.s.length : Int)) = Rt.routeR g.q t a b tick from Rt.route_period (by omega)]; rfl) ?_
        refine E.CW.put 24 (.int .i64 (Rt.routeR g.q t a b tick).2) rfl (by rw [show Rt.routeR g.q t a b (tick + (g.s.length : Int)) = Rt.routeR g.q t a b tick from Rt.route_period (by omega)]; rfl) ?_
        refine E.CW.chunk 0 (E.HP.row 3 1 AR1 (Rt.routeR g.q t a b tick).1.length cR1 (E.ints (Rt.routeR g.q t a b tick).1)) rfl (by rw [show Rt.routeR g.q t a b (tick + (g.s.length : Int)) = Rt.routeR g.q t a b tick from Rt.route_period (by omega)]) ?_
        refine E.CW.region ?_
        refine E.OW.pure rfl rfl rfl (E.PV.move rfl rfl) ?_
        refine E.OW.pure rfl rfl rfl (E.PV.move rfl rfl) ?_
        all_goals (refine E.OW.put 92 (.bool true) (v := .bool true) rfl rfl ?_)
        all_goals (refine E.OW.pure rfl rfl rfl (E.PV.move rfl rfl) ?_)
        all_goals (refine E.OW.pure rfl rfl rfl (E.PV.move rfl rfl) ?_)
        all_goals (refine E.OW.pure rfl rfl rfl (E.PV.beq Try.underlying4 rfl rfl rfl) ?_)
        all_goals (refine E.OW.pure rfl rfl rfl (E.PV.pick_t rfl rfl rfl) ?_)
        all_goals (refine E.OW.pure rfl rfl rfl (E.PV.move rfl rfl) ?_)
        all_goals (refine E.OW.put 97 (.bool true) rfl (congrArg Value.bool ?_) ?_; (focus ((simp only [E.b0, E.b1, E.b2, E.b3, E.b4, E.b5, E.b6, E.b7, E.b8, E.b9, E.b10, E.b11, E.b12, E.b13, E.b14, E.b15, E.b16, E.b17, E.b18, E.b19, E.b20]; done))))
        all_goals (refine E.OW.pure rfl rfl rfl (E.PV.move rfl rfl) ?_)
        all_goals (refine E.OW.pure rfl rfl rfl (E.PV.move rfl rfl) ?_)
        all_goals (refine E.OW.pure rfl rfl rfl (E.PV.eql rfl rfl rfl) ?_)
        all_goals (refine E.OW.pure rfl rfl rfl (E.PV.pick_t rfl rfl rfl) ?_)
        all_goals (refine E.OW.pure rfl rfl rfl (E.PV.move rfl rfl) ?_)
        all_goals (refine E.OW.put 102 (.bool true) rfl (congrArg Value.bool ?_) ?_; (focus ((simp only [E.b0, E.b1, E.b2, E.b3, E.b4, E.b5, E.b6, E.b7, E.b8, E.b9, E.b10, E.b11, E.b12, E.b13, E.b14, E.b15, E.b16, E.b17, E.b18, E.b19, E.b20]; done))))
        all_goals (refine E.OW.pure rfl rfl rfl (E.PV.move rfl rfl) ?_)
        all_goals (refine E.OW.pure rfl rfl rfl (E.PV.move rfl rfl) ?_)
        all_goals (refine E.OW.pure rfl rfl rfl (E.PV.eql rfl rfl rfl) ?_)
        all_goals (refine E.OW.pure rfl rfl rfl (E.PV.pick_t rfl rfl rfl) ?_)
        all_goals (refine E.OW.pure rfl rfl rfl (E.PV.move rfl rfl) ?_)
        all_goals (refine E.OW.put 107 (.bool true) rfl (congrArg Value.bool ?_) ?_; (focus ((simp only [E.b0, E.b1, E.b2, E.b3, E.b4, E.b5, E.b6, E.b7, E.b8, E.b9, E.b10, E.b11, E.b12, E.b13, E.b14, E.b15, E.b16, E.b17, E.b18, E.b19, E.b20]; done))))
        all_goals (refine E.OW.pure rfl rfl rfl (E.PV.move rfl rfl) ?_)
        all_goals (refine E.OW.pure rfl rfl rfl (E.PV.move rfl rfl) ?_)
        all_goals (refine E.OW.pure rfl rfl rfl (E.PV.eql rfl rfl rfl) ?_)
        all_goals (refine E.OW.pure rfl rfl rfl (E.PV.pick_t rfl rfl rfl) ?_)
        all_goals (refine E.OW.pure rfl rfl rfl (E.PV.move rfl rfl) ?_)
        all_goals (refine E.OW.put 112 (.bool true) rfl (congrArg Value.bool ?_) ?_; (focus ((simp only [E.b0, E.b1, E.b2, E.b3, E.b4, E.b5, E.b6, E.b7, E.b8, E.b9, E.b10, E.b11, E.b12, E.b13, E.b14, E.b15, E.b16, E.b17, E.b18, E.b19, E.b20]; done))))
        all_goals (refine E.OW.pure rfl rfl rfl (E.PV.move rfl rfl) ?_)
        all_goals (refine E.OW.pure rfl rfl rfl (E.PV.move rfl rfl) ?_)
        all_goals ((refine E.OW.call nm22 rfl rfl rfl rfl rfl rfl _ (fun w hw => rSameInts_ok _ _ ((Rt.routeR g.q t a b tick).1) _ _ ((Rt.routeR g.q t a b tick).1) w ?_ ?_ ?_) ?_; (focus (omega)); (focus (exact hw.rdrow (i := 1) rfl)); (focus (exact hw.rdrow (i := 0) rfl)); rintro _ _ ⟨rfl, rfl⟩))
        all_goals (refine E.OW.pure rfl rfl rfl (E.PV.pick_t rfl rfl rfl) ?_)
        all_goals (refine E.OW.pure rfl rfl rfl (E.PV.move rfl rfl) ?_)
        all_goals (refine E.OW.put 117 (.bool true) rfl (congrArg Value.bool ?_) ?_; (focus ((simp only [E.b0, E.b1, E.b2, E.b3, E.b4, E.b5, E.b6, E.b7, E.b8, E.b9, E.b10, E.b11, E.b12, E.b13, E.b14, E.b15, E.b16, E.b17, E.b18, E.b19, E.b20]; done))))
        all_goals (refine E.OW.pure rfl rfl rfl (E.PV.move rfl rfl) ?_)
        all_goals (refine E.OW.pure rfl rfl rfl (E.PV.move rfl rfl) ?_)
        all_goals (refine E.OW.pure rfl rfl rfl (E.PV.eql rfl rfl rfl) ?_)
        all_goals (refine E.OW.pure rfl rfl rfl (E.PV.pick_t rfl rfl rfl) ?_)
        all_goals (refine E.OW.pure rfl rfl rfl (E.PV.assign rfl rfl) ?_)
        all_goals (
          refine E.OW.nil ?_
          refine E.then_n ?_
          refine E.CW.ret ?_
          refine E.KR.one [] Try.results8 rfl rfl ?_
          exact ⟨by first | rfl | (simp_all; done), rfl⟩)))
end Go.Proofs.Ytflkbabhbnmajaa

/- The outright laws of the routes, as the walks need them. No program in sight. -/
set_option linter.unusedSimpArgs false
set_option linter.unusedVariables false
namespace Go.Proofs.Ytflkbabhbnmajaa
namespace Rt
open Cf
theorem rest_one (g : C) (t a b tick : Int) : ¬ (routeR g t a b tick).2 = 0 ∨ ((routeR g t a b tick).2 = 0 ∧ 1 ≤ (routeR g t a b tick).1.length ∧ (routeR g t a b tick).1.getD 0 0 = a ∧ (¬ ((routeR g t a b tick).1.length : Int) < 2 ∨ ((routeR g t a b tick).1.length = 1 ∧ a = b))) := by
  by_cases h : (routeR g t a b tick).2 = 0
  · have h2 := h
    rw [route_err2] at h
    refine .inr ⟨h2, route_pos h, route_first h, ?_⟩
    by_cases hl : ((routeR g t a b tick).1.length : Int) < 2
    · exact .inr (route_same h (by omega))
    · exact .inl hl
  · exact .inl h
theorem rest_two {g : C} {t a b tick : Int} (h : (routeR g t a b tick).2 = 0) (hl : 2 ≤ (routeR g t a b tick).1.length) (ht : tick < 4611686018427389952) :
    routeR g t ((routeR g t a b tick).1.getD 1 0) b (tick + 1) = ((routeR g t a b tick).1.tail, 0) ∧ arrivalR g t ((routeR g t a b tick).1.getD 1 0) b (tick + 1) = (((routeR g t a b tick).1.length : Int) - 2, 0) := by
  rw [route_err2] at h
  exact rest_ok h hl ht
/-- the errors that a leg may have. -/
theorem arv_errs (g : C) (t a b tick : Int) : (arrivalR g t a b tick).2 = legE g t a b tick ∨ (legE g t a b tick = 0 ∧ (arrivalR g t a b tick).2 = 130) := by
  unfold arrivalR
  by_cases h0 : legE g t a b tick = 0
  · rw [if_pos h0]
    split
    · exact .inr ⟨h0, rfl⟩
    · exact .inl h0.symm
  · rw [if_neg h0]; exact .inl rfl
theorem arv_bd (g : C) (t a b tick : Int) : 0 ≤ (arrivalR g t a b tick).1 ∧ (arrivalR g t a b tick).1 ≤ 1024 := by
  by_cases h : (arrivalR g t a b tick).2 = 0
  · exact arv_small h
  · unfold arrivalR at *
    split
    · rename_i h0
      rw [if_pos h0] at h
      split
      · decide
      · rename_i h1; rw [if_neg h1] at h; exact absurd rfl h
    · exact ⟨Int.le_refl _, show (0 : Int) ≤ 1024 by decide⟩
theorem waits_two {g : C} {t a b tick : Int} (h : ¬ (¬ (arrivalR g t a b tick).2 = 0 ∧ ¬ (arrivalR g t a b tick).2 = 130)) (h1 : (Fl.owner g.a g.b g.l a).2 = 0) (h2 : (Fl.owner g.a g.b g.l a).1 = t) (ht : tick ≤ 4611686018427387904) :
    (arrivalR g t a b tick).2 = (arrivalR g t a b (tick + 1)).2 ∧ (((arrivalR g t a b tick).2 = 130 ∧ (arrivalR g t a b tick).1 = (arrivalR g t a b (tick + 1)).1) ∨
      ((arrivalR g t a b tick).2 = 0 ∧ (arrivalR g t a b tick).1 - 1 ≤ (arrivalR g t a b (tick + 1)).1 ∧ (arrivalR g t a b (tick + 1)).1 ≤ (arrivalR g t a b tick).1 + g.s.length - 1 ∧ (¬ a = b ∨ (arrivalR g t a b tick).1 = (arrivalR g t a b (tick + 1)).1))) := by
  have hl : legE g t a b tick = 0 := by
    have := arv_errs g t a b tick
    have := legE_not g t a b tick
    omega
  obtain ⟨w1, w2, w3, w4⟩ := waits_ok (b := b) (own_is h1 h2) hl ht
  refine ⟨w1, ?_⟩
  by_cases he : (arrivalR g t a b tick).2 = 0
  · refine .inr ⟨he, (w3 he).1, (w3 he).2, ?_⟩
    by_cases hab : a = b
    · exact .inr (w4 hab)
    · exact .inl hab
  · obtain ⟨e1, e2⟩ := w2 he
    exact .inl ⟨by omega, by rw [e1, e2]⟩
theorem rows_two (g : C) (t a b tick : Int) (h0 : 0 ≤ tick) (ht : tick ≤ 4611686018427389952) : (¬ (tableR g t a b).2 = 0 ∧ (tableR g t a b).1.length = 0 ∧ (arrivalR g t a b tick).2 = (tableR g t a b).2) ∨
    ((tableR g t a b).2 = 0 ∧ (tableR g t a b).1.length = g.s.length ∧ (1 ≤ g.s.length ∧ g.s.length ≤ 16) ∧ (((arrivalR g t a b tick).2 = 0 ∧ (tableR g t a b).1.getD (tick % ((tableR g t a b).1.length : Int)).toNat 0 = (arrivalR g t a b tick).1) ∨ ((arrivalR g t a b tick).2 = 130 ∧ (tableR g t a b).1.getD (tick % ((tableR g t a b).1.length : Int)).toNat 0 = -1))) := by
  by_cases h : legE g t a b 0 = 0
  · obtain ⟨e, h1, h2⟩ := rows_ok h h0 ht
    have hl : (tableR g t a b).1.length = g.s.length := by rw [e]; simp
    refine .inr ⟨by rw [e], hl, per_of (leg_of h).1.c, ?_⟩
    rw [hl, h1]
    rcases h2 with ⟨h2, h3⟩ | ⟨h2, h3⟩
    · exact .inl ⟨h2, h3.symm⟩
    · exact .inr ⟨h2, h3⟩
  · rw [table_err h]
    refine .inl ⟨h, rfl, ?_⟩
    have := legE_any (g := g) (t := t) (a := a) (b := b) ht
    rw [arv_err (by rw [this]; exact h), this]
/-- the same place, or one step apart. -/
def nr (w p q : Int) : Bool := decide (p = q ∨ (p / w = q / w ∧ (p = q + 1 ∨ q = p + 1)) ∨ p = q + w ∨ q = p + w)
def anr (w p : Int) (l : List Int) (j : Nat) : Bool := (l.take j).any fun q => nr w q p
end Rt
end Go.Proofs.Ytflkbabhbnmajaa

/- Walks (printed by gen.py). -/
namespace Go.Proofs.Ytflkbabhbnmajaa
open Go Go.RowKit
set_option linter.unusedSimpArgs false
set_option linter.unusedVariables false

set_option maxRecDepth 100000 in
theorem RouteRest_ok (g : E.Cfg) (t a b tick : Int) (w0 : World) (hg : g.rd w0 (E.Old w0)) (hgf : g.q.fit) (ht : 0 ≤ tick ∧ tick < 18446744073709551616) :
    Calls Try.prog 9 #[g.v, .int .i64 t, .agg #[.int .i64 a, .int .i64 b], .int .u64 tick] w0 (E.Post w0 (E.Old w0) fun v Hn => v = .bool true ∧ Hn = []) := by
  obtain ⟨hX1, hX2, hX3, hX4⟩ := id hg
  have hgl := E.Cfg.fit_len hgf
  have hrl := Rt.routeR_len g.q t a b tick
  have hr1 := Rt.rest_one g.q t a b tick
  refine E.calls_of (vs := [g.v, .int .i64 t, .agg #[.int .i64 a, .int .i64 b], .int .u64 tick]) (H := []) Try.func9 Try.ntmps9 rfl rfl (E.HA.start w0) ?_
  refine E.CW.seq ?_
  refine E.CW.region ?_
  refine E.OW.box rfl rfl rfl rfl rfl rfl (fun B1 => ?_)
  refine E.OW.box rfl rfl rfl rfl rfl rfl (fun B2 => ?_)
  refine E.OW.pure rfl rfl rfl (E.PV.assign rfl rfl) ?_
  refine E.OW.nil ?_
  refine E.then_n ?_
  refine E.CW.seq ?_
  refine E.CW.region ?_
  (refine E.OW.call nm38 rfl rfl rfl rfl rfl rfl _ (fun w hw => alive4_ok w) ?_; rintro _ _ ⟨rfl, rfl⟩)
  refine E.OW.pure rfl rfl rfl (E.PV.assign rfl rfl) ?_
  refine E.OW.nil ?_
  refine E.then_n ?_
  refine E.CW.seq ?_
  refine E.CW.seq ?_
  refine E.CW.region ?_
  refine E.OW.pure rfl rfl rfl (E.PV.loads (i := 1) is28 rfl rfl rfl rfl) ?_
  (refine E.OW.call nm19 rfl rfl rfl rfl rfl rfl _ (fun w hw => Gt_ok _ w ?_ ?_) ?_; (focus (refine hw.rdC ?_; assumption)); (focus (assumption)); rintro _ _ ⟨bG, rfl, rfl⟩)
  refine E.OW.pure rfl rfl rfl (E.PV.move rfl rfl) ?_
  all_goals (refine E.OW.split 20 rfl (fun hc => ?_) (fun hc => ?_) <;> (try simp only [E.b0, E.b1, E.b2, E.b3, E.b4, E.b5, E.b6, E.b7, E.b8, E.b9, E.b10, E.b11, E.b12, E.b13, E.b14, E.b15, E.b16, E.b17, E.b18, E.b19, E.b20, reduceCtorEq] at hc) <;> (try (exfalso; first | assumption | contradiction | omega)))
  all_goals (first | (refine E.OW.off rfl rfl rfl ?_) | (refine E.OW.pure rfl rfl rfl (E.PV.move rfl rfl) ?_))
  all_goals (first | (refine E.OW.off rfl rfl rfl ?_) | (refine E.OW.pure rfl rfl rfl (E.PV.geq rfl rfl rfl) ?_))
  all_goals (first | (refine E.OW.pure rfl rfl rfl (E.PV.pick_t rfl rfl rfl) ?_) | (refine E.OW.pure rfl rfl rfl (E.PV.pick_f rfl rfl rfl) ?_))
  all_goals (refine E.OW.pure rfl rfl rfl (E.PV.move rfl rfl) ?_)
  all_goals (first | (refine E.OW.put 24 (.bool true) (v := .bool true) rfl rfl ?_) | (refine E.OW.split 24 rfl (fun hc => ?_) (fun hc => ?_) <;> (try simp only [E.b0, E.b1, E.b2, E.b3, E.b4, E.b5, E.b6, E.b7, E.b8, E.b9, E.b10, E.b11, E.b12, E.b13, E.b14, E.b15, E.b16, E.b17, E.b18, E.b19, E.b20, reduceCtorEq] at hc) <;> (try (exfalso; first | assumption | contradiction | omega))))
  all_goals (first | (refine E.OW.off rfl rfl rfl ?_) | (refine E.OW.pure rfl rfl rfl (E.PV.move rfl rfl) ?_))
  all_goals (first | (refine E.OW.off rfl rfl rfl ?_) | (refine E.OW.pure rfl rfl rfl (E.PV.not rfl rfl) ?_))
  all_goals (first | (refine E.OW.pure rfl rfl rfl (E.PV.pick_t rfl rfl rfl) ?_) | (refine E.OW.pure rfl rfl rfl (E.PV.pick_f rfl rfl rfl) ?_))
  all_goals (
    refine E.OW.nil ?_
    refine E.then_n ?_
    refine E.CW.cond rfl (fun hc => ?_) (fun hc => ?_)
    · first | ((cases hc; done)) | (simp only [E.b0, E.b1, E.b2, E.b3, E.b4, E.b5, E.b6, E.b7, E.b8, E.b9, E.b10, E.b11, E.b12, E.b13, E.b14, E.b15, E.b16, E.b17, E.b18, E.b19, E.b20, reduceCtorEq] at hc)
      all_goals (
        refine E.CW.seq ?_
        refine E.CW.region ?_
        refine E.OW.pure rfl rfl rfl (E.PV.move rfl rfl) ?_
        refine E.OW.pure rfl rfl rfl (E.PV.assign rfl rfl) ?_
        refine E.OW.nil ?_
        refine E.then_n ?_
        refine E.CW.ret ?_
        refine E.then_ret ?_
        refine E.KR.one [] Try.results9 rfl rfl ?_
        exact ⟨by first | rfl | (simp_all; done), rfl⟩)
    · first | ((cases hc; done)) | (simp only [E.b0, E.b1, E.b2, E.b3, E.b4, E.b5, E.b6, E.b7, E.b8, E.b9, E.b10, E.b11, E.b12, E.b13, E.b14, E.b15, E.b16, E.b17, E.b18, E.b19, E.b20, reduceCtorEq] at hc)
      all_goals (
        refine E.CW.skip ?_
        refine E.then_n ?_
        refine E.CW.seq ?_
        refine E.CW.region ?_
        refine E.OW.pure rfl rfl rfl (E.PV.loads (i := 1) is28 rfl rfl rfl rfl) ?_
        refine E.OW.pure rfl rfl rfl (E.PV.move rfl rfl) ?_
        refine E.OW.pure rfl rfl rfl (E.PV.loads (i := 0) is30 rfl rfl rfl rfl) ?_
        refine E.OW.pure rfl rfl rfl (E.PV.move rfl rfl) ?_
        (refine E.OW.call nm40 rfl rfl rfl rfl rfl rfl _ (fun w hw => Ro_ok g t a b tick w ?_ ?_ ?_) ?_; (focus (refine hw.rdC ?_; assumption)); (focus (assumption)); (focus (assumption)); rintro _ _ ⟨AR0, cR0, rfl, rfl⟩)
        refine E.OW.pure rfl rfl rfl (E.PV.move rfl rfl) ?_
        refine E.OW.pure rfl rfl rfl (E.PV.extract rfl rfl rfl) ?_
        refine E.OW.pure rfl rfl rfl (E.PV.extract rfl rfl rfl) ?_
        refine E.OW.pure rfl rfl rfl (E.PV.assign rfl rfl) ?_
        refine E.OW.pure rfl rfl rfl (E.PV.assign rfl rfl) ?_
        refine E.OW.nil ?_
        refine E.then_n ?_
        refine E.CW.seq ?_
        refine E.CW.seq ?_
        refine E.CW.region ?_
        refine E.OW.pure rfl rfl rfl (E.PV.move rfl rfl) ?_
        refine E.OW.pure rfl rfl rfl (E.PV.neq rfl rfl rfl) ?_
        refine E.OW.pure rfl rfl rfl (E.PV.move rfl rfl) ?_
        all_goals (refine E.OW.split 39 rfl (fun hc => ?_) (fun hc => ?_) <;> (try simp only [E.b0, E.b1, E.b2, E.b3, E.b4, E.b5, E.b6, E.b7, E.b8, E.b9, E.b10, E.b11, E.b12, E.b13, E.b14, E.b15, E.b16, E.b17, E.b18, E.b19, E.b20, reduceCtorEq] at hc) <;> (try (exfalso; first | assumption | contradiction | omega)))
        all_goals (first | (refine E.OW.off rfl rfl rfl ?_) | (refine E.OW.pure rfl rfl rfl (E.PV.move rfl rfl) ?_))
        all_goals (first | (refine E.OW.off rfl rfl rfl ?_) | (refine E.OW.pure rfl rfl rfl (E.PV.len Try.underlying31 rfl rfl) ?_))
        all_goals (first | (refine E.OW.off rfl rfl rfl ?_) | (refine E.OW.pure rfl rfl rfl (E.PV.lss rfl rfl rfl) ?_))
        all_goals (first | (refine E.OW.pure rfl rfl rfl (E.PV.pick_t rfl rfl rfl) ?_) | (refine E.OW.pure rfl rfl rfl (E.PV.pick_f rfl rfl rfl) ?_))
        all_goals (
          refine E.OW.nil ?_
          refine E.then_n ?_
          refine E.CW.cond rfl (fun hc => ?_) (fun hc => ?_)
          · simp only [E.b0, E.b1, E.b2, E.b3, E.b4, E.b5, E.b6, E.b7, E.b8, E.b9, E.b10, E.b11, E.b12, E.b13, E.b14, E.b15, E.b16, E.b17, E.b18, E.b19, E.b20, reduceCtorEq] at hc
            all_goals (
              refine E.CW.seq ?_
              rcases hr1 with h9 | ⟨h9, hl0, hl1, hl2 | ⟨hl3, hl4⟩⟩ <;> try contradiction
              refine E.CW.draw mixed (by kernel_rfl) ?_
              refine E.QW.pure rfl rfl rfl (E.PV.move rfl rfl) ?_
              refine E.QW.pure rfl rfl rfl (E.PV.move rfl rfl) ?_
              all_goals (refine E.QW.put 45 (.bool true) (v := .bool true) rfl rfl ?_)
              all_goals (refine E.QW.pure rfl rfl rfl (E.PV.move rfl rfl) ?_)
              all_goals (refine E.QW.pure rfl rfl rfl (E.PV.neq rfl rfl rfl) ?_)
              all_goals (refine E.QW.pure rfl rfl rfl (E.PV.move rfl rfl) ?_)
              all_goals (first | (refine E.QW.put 48 (.bool true) rfl (congrArg Value.bool ?_) ?_; (focus ((simp only [E.b0, E.b1, E.b2, E.b3, E.b4, E.b5, E.b6, E.b7, E.b8, E.b9, E.b10, E.b11, E.b12, E.b13, E.b14, E.b15, E.b16, E.b17, E.b18, E.b19, E.b20]; omega)))) | (refine E.QW.put 48 (.bool false) rfl (congrArg Value.bool ?_) ?_; (focus ((simp only [E.b0, E.b1, E.b2, E.b3, E.b4, E.b5, E.b6, E.b7, E.b8, E.b9, E.b10, E.b11, E.b12, E.b13, E.b14, E.b15, E.b16, E.b17, E.b18, E.b19, E.b20]; omega)))))
              all_goals (first | (refine E.QW.off rfl rfl rfl ?_) | (refine E.QW.pure rfl rfl rfl (E.PV.move rfl rfl) ?_))
              all_goals (first | (refine E.QW.off rfl rfl rfl ?_) | (refine E.QW.pure rfl rfl rfl (E.PV.len Try.underlying31 rfl rfl) ?_))
              all_goals (first | (refine E.QW.off rfl rfl rfl ?_) | (refine E.QW.pure rfl rfl rfl (E.PV.eql rfl rfl rfl) ?_))
              all_goals (first | (refine E.QW.off rfl rfl rfl ?_) | (refine E.QW.pure rfl rfl rfl (E.PV.move rfl rfl) ?_))
              all_goals (first | (refine E.QW.put 52 (.tuple #[]) (v := .tuple #[]) rfl rfl ?_) | (refine E.QW.put 52 (.bool true) rfl (congrArg Value.bool ?_) ?_; (focus ((simp only [E.b0, E.b1, E.b2, E.b3, E.b4, E.b5, E.b6, E.b7, E.b8, E.b9, E.b10, E.b11, E.b12, E.b13, E.b14, E.b15, E.b16, E.b17, E.b18, E.b19, E.b20]; omega)))))
              all_goals (first | (refine E.QW.off rfl rfl rfl ?_) | (refine E.QW.pure rfl rfl rfl (E.PV.move rfl rfl) ?_))
              all_goals (first | (refine E.QW.off rfl rfl rfl ?_) | (refine E.QW.pure rfl rfl rfl (E.PV.indexAddr1 (E.rdr (i := 0) rfl) Try.underlying31 in3 rfl rfl rfl (E.tn ?_) ?_ ?_) ?_; (focus (omega)); (focus (first | (simp; done) | (simp; omega))); (focus (omega))))
              all_goals (first | (refine E.QW.off rfl rfl rfl ?_) | (refine E.QW.pure rfl rfl rfl (E.PV.load_int (E.rdr (i := 0) rfl) na3 rfl rfl ?_) ?_; (focus (omega))))
              all_goals (first | (refine E.QW.off rfl rfl rfl ?_) | (refine E.QW.pure rfl rfl rfl (E.PV.fieldAddr fa30_1 rfl rfl) ?_))
              all_goals (first | (refine E.QW.off rfl rfl rfl ?_) | (refine E.QW.pure rfl rfl rfl (E.PV.load (i := 1) na3 rfl rfl rfl rfl) ?_))
              all_goals (first | (refine E.QW.off rfl rfl rfl ?_) | (refine E.QW.pure rfl rfl rfl (E.PV.eql rfl rfl rfl) ?_))
              all_goals (first | (refine E.QW.off rfl rfl rfl ?_) | (refine E.QW.pure rfl rfl rfl (E.PV.pick_t rfl rfl rfl) ?_))
              all_goals (first | (refine E.QW.off rfl rfl rfl ?_) | (refine E.QW.pure rfl rfl rfl (E.PV.move rfl rfl) ?_))
              all_goals (first | (refine E.QW.put 60 (.tuple #[]) (v := .tuple #[]) rfl rfl ?_) | (refine E.QW.split 60 rfl (fun hc => ?_) (fun hc => ?_) <;> (try simp only [E.b0, E.b1, E.b2, E.b3, E.b4, E.b5, E.b6, E.b7, E.b8, E.b9, E.b10, E.b11, E.b12, E.b13, E.b14, E.b15, E.b16, E.b17, E.b18, E.b19, E.b20, reduceCtorEq] at hc) <;> (try (exfalso; first | assumption | contradiction | omega))))
              all_goals (first | (refine E.QW.off rfl rfl rfl ?_) | (refine E.QW.pure rfl rfl rfl (E.PV.fieldAddr fa30_0 rfl rfl) ?_))
              all_goals (first | (refine E.QW.off rfl rfl rfl ?_) | (refine E.QW.pure rfl rfl rfl (E.PV.load (i := 1) na3 rfl rfl rfl rfl) ?_))
              all_goals (first | (refine E.QW.off rfl rfl rfl ?_) | (refine E.QW.pure rfl rfl rfl (E.PV.fieldAddr fa30_1 rfl rfl) ?_))
              all_goals (first | (refine E.QW.off rfl rfl rfl ?_) | (refine E.QW.pure rfl rfl rfl (E.PV.load (i := 1) na3 rfl rfl rfl rfl) ?_))
              all_goals (first | (refine E.QW.off rfl rfl rfl ?_) | (refine E.QW.pure rfl rfl rfl (E.PV.eql rfl rfl rfl) ?_))
              all_goals (first | (refine E.QW.off rfl rfl rfl ?_) | (first | (refine E.QW.pure rfl rfl rfl (E.PV.pick_t rfl rfl rfl) ?_) | (refine E.QW.pure rfl rfl rfl (E.PV.pick_f rfl rfl rfl) ?_)))
              all_goals (first | (refine E.QW.pure rfl rfl rfl (E.PV.pick_t rfl rfl rfl) ?_) | (refine E.QW.pure rfl rfl rfl (E.PV.pick_f rfl rfl rfl) ?_))
              all_goals (refine E.QW.pure rfl rfl rfl (E.PV.pick_t rfl rfl rfl) ?_)
              all_goals (refine E.QW.pure rfl rfl rfl (E.PV.assign rfl rfl) ?_)
              all_goals (
                refine E.QW.nil ?_
                refine E.then_n ?_
                refine E.CW.ret ?_
                refine E.then_ret ?_
                refine E.KR.one [] Try.results9 rfl rfl ?_
                exact ⟨by first | rfl | (simp_all; done), rfl⟩))
          · first | ((cases hc; done)) | (simp only [E.b0, E.b1, E.b2, E.b3, E.b4, E.b5, E.b6, E.b7, E.b8, E.b9, E.b10, E.b11, E.b12, E.b13, E.b14, E.b15, E.b16, E.b17, E.b18, E.b19, E.b20, reduceCtorEq] at hc)
            all_goals (
              refine E.CW.skip ?_
              refine E.then_n ?_
              refine E.CW.seq ?_
              have he0 : (Rt.routeR g.q t a b tick).2 = 0 := by assumption
              rcases hr1 with h9 | ⟨_, hr0, hra, _⟩ <;> try contradiction
              obtain ⟨hr2, hr3⟩ := Rt.rest_two he0 (by omega) (by omega)
              refine E.CW.drawx mixed [0, 0] rfl ?_
              all_goals (refine E.AW.first 0 rfl (by kernel_rfl) (by kernel_rfl) (by kernel_rfl) rfl rfl rfl (E.PV.move rfl rfl) ?_)
              all_goals (refine E.AW.first 1 rfl (by kernel_rfl) (by kernel_rfl) (by kernel_rfl) rfl rfl rfl (E.PV.indexAddr1 (E.rdr (i := 0) rfl) Try.underlying31 in3 rfl rfl rfl (E.tn ?_) ?_ ?_) ?_; (focus (omega)); (focus (first | (simp; done) | (simp; omega))); (focus (omega)))
              all_goals (refine E.AW.first 2 rfl (by kernel_rfl) (by kernel_rfl) (by kernel_rfl) rfl rfl rfl (E.PV.load_int (E.rdr (i := 0) rfl) na3 rfl rfl ?_) ?_; (focus (omega)))
              all_goals (refine E.AW.first 3 rfl (by kernel_rfl) (by kernel_rfl) (by kernel_rfl) rfl rfl rfl (E.PV.fieldAddr fa30_1 rfl rfl) ?_)
              all_goals (refine E.AW.first 4 rfl (by kernel_rfl) (by kernel_rfl) (by kernel_rfl) rfl rfl rfl (E.PV.load (i := 1) na3 rfl rfl rfl rfl) ?_)
              all_goals (refine E.AW.first 5 rfl (by kernel_rfl) (by kernel_rfl) (by kernel_rfl) rfl rfl rfl (E.PV.build (ps := [(0, .tmp 71), (1, .tmp 73)]) rfl rfl (fun w => bld30_0_1 _ _ w)) ?_)
              all_goals (refine E.AW.one 6 (by kernel_rfl) rfl ?_)
              all_goals (refine E.OW.alloc (in30.zr) rfl rfl rfl rfl rfl (fun B3 => ?_))
              all_goals (first | (refine E.AW.nil [0, 0] rfl ?_) | (refine E.AW.nil [1, 1] rfl ?_) | (refine E.AW.nil [2, 2] rfl ?_) | (refine E.AW.nil [3, 3] rfl ?_) | (refine E.AW.nil [4, 4] rfl ?_) | (refine E.AW.nil [5, 5] rfl ?_) | (refine E.AW.nil [6, 6] rfl ?_) | (refine E.AW.nil [0, 0] rfl ?_) | (refine E.AW.nil [0, 0] rfl ?_))
              all_goals (refine E.AW.one 7 (by kernel_rfl) rfl ?_)
              all_goals (refine E.OW.store (i := 0) in30.size rfl rfl rfl rfl rfl rfl rfl rfl rfl ?_)
              all_goals (first | (refine E.AW.nil [0, 0] rfl ?_) | (refine E.AW.nil [1, 1] rfl ?_) | (refine E.AW.nil [2, 2] rfl ?_) | (refine E.AW.nil [3, 3] rfl ?_) | (refine E.AW.nil [4, 4] rfl ?_) | (refine E.AW.nil [5, 5] rfl ?_) | (refine E.AW.nil [6, 6] rfl ?_) | (refine E.AW.nil [0, 0] rfl ?_) | (refine E.AW.nil [0, 0] rfl ?_))
              all_goals (refine E.AW.done (by kernel_rfl) ?_)
              all_goals (
                skip
                refine E.then_n ?_
                refine E.CW.seq ?_
                refine E.CW.region ?_
                refine E.OW.pure rfl rfl rfl (E.PV.loads (i := 3) is28 rfl rfl rfl rfl) ?_
                refine E.OW.pure rfl rfl rfl (E.PV.move rfl rfl) ?_
                refine E.OW.pure rfl rfl rfl (E.PV.loads (i := 0) is30 rfl rfl rfl rfl) ?_
                refine E.OW.pure rfl rfl rfl (E.PV.move rfl rfl) ?_
                refine E.OW.pure rfl rfl rfl (E.PV.add_u64 rfl rfl rfl ?_) ?_; (focus (omega))
                (refine E.OW.call nm40 rfl rfl rfl rfl rfl rfl _ (fun w hw => Ro_ok g t ((Rt.routeR g.q t a b tick).1.getD 1 0) b (tick + 1) w ?_ ?_ (by omega)) ?_; (focus (refine hw.rdC ?_; assumption)); (focus (assumption)); rintro _ _ ⟨AR1, cR1, rfl, rfl⟩)
                refine E.OW.pure rfl rfl rfl (E.PV.move rfl rfl) ?_
                refine E.OW.pure rfl rfl rfl (E.PV.extract rfl rfl rfl) ?_
                refine E.OW.pure rfl rfl rfl (E.PV.extract rfl rfl rfl) ?_
                refine E.OW.pure rfl rfl rfl (E.PV.assign rfl rfl) ?_
                refine E.OW.pure rfl rfl rfl (E.PV.assign rfl rfl) ?_
                refine E.OW.nil ?_
                refine E.then_n ?_
                refine E.CW.seq ?_
                refine E.CW.put 13 (.slice AR1 (Rt.routeR g.q t a b tick).1.tail.length cR1) rfl (by rw [hr2]; rfl) ?_
                refine E.CW.put 14 (.int .i64 0) rfl (by rw [hr2]; rfl) ?_
                refine E.CW.chunk 0 (E.HP.row 3 1 AR1 (Rt.routeR g.q t a b tick).1.tail.length cR1 (E.ints (Rt.routeR g.q t a b tick).1.tail)) rfl (by rw [hr2]) ?_
                refine E.CW.region ?_
                refine E.OW.pure rfl rfl rfl (E.PV.loads (i := 4) is28 rfl rfl rfl rfl) ?_
                refine E.OW.pure rfl rfl rfl (E.PV.move rfl rfl) ?_
                refine E.OW.pure rfl rfl rfl (E.PV.loads (i := 1) is30 rfl rfl rfl rfl) ?_
                refine E.OW.pure rfl rfl rfl (E.PV.move rfl rfl) ?_
                refine E.OW.pure rfl rfl rfl (E.PV.add_u64 rfl rfl rfl ?_) ?_; (focus (omega))
                (refine E.OW.call nm39 rfl rfl rfl rfl rfl rfl _ (fun w hw => Arv_ok g t ((Rt.routeR g.q t a b tick).1.getD 1 0) b (tick + 1) w ?_ ?_ (by omega)) ?_; (focus (refine hw.rdC ?_; assumption)); (focus (assumption)); rintro _ _ ⟨rfl, rfl⟩)
                refine E.OW.pure rfl rfl rfl (E.PV.move rfl rfl) ?_
                refine E.OW.pure rfl rfl rfl (E.PV.extract rfl rfl rfl) ?_
                refine E.OW.pure rfl rfl rfl (E.PV.extract rfl rfl rfl) ?_
                refine E.OW.pure rfl rfl rfl (E.PV.assign rfl rfl) ?_
                refine E.OW.pure rfl rfl rfl (E.PV.assign rfl rfl) ?_
                refine E.OW.nil ?_
                refine E.then_n ?_
                refine E.CW.seq ?_
                refine E.CW.put 15 (.int .i64 (((Rt.routeR g.q t a b tick).1.length : Int) - 2)) rfl (by rw [hr3]; rfl) ?_
                refine E.CW.put 16 (.int .i64 0) rfl (by rw [hr3]; rfl) ?_
                refine E.CW.cap 2 rfl (fun hcR => ?_)
                have htl : (Rt.routeR g.q t a b tick).1.tail.length = (Rt.routeR g.q t a b tick).1.length - 1 := List.length_tail
                refine E.CW.drawx mixed [2, 2] rfl ?_
                all_goals (refine E.AW.first 0 rfl (by kernel_rfl) (by kernel_rfl) (by kernel_rfl) rfl rfl rfl (E.PV.move rfl rfl) ?_)
                all_goals (refine E.AW.first 1 rfl (by kernel_rfl) (by kernel_rfl) (by kernel_rfl) rfl rfl rfl (E.PV.move rfl rfl) ?_)
                all_goals (refine E.AW.put 94 (.bool true) (v := .bool true) rfl rfl ?_)
                all_goals (refine E.AW.first 2 rfl (by kernel_rfl) (by kernel_rfl) (by kernel_rfl) rfl rfl rfl (E.PV.move rfl rfl) ?_)
                all_goals (refine E.AW.first 3 rfl (by kernel_rfl) (by kernel_rfl) (by kernel_rfl) rfl rfl rfl (E.PV.indexAddr1 (E.rdr (i := 0) rfl) Try.underlying31 in3 rfl rfl rfl (E.tn ?_) ?_ ?_) ?_; (focus (omega)); (focus (first | (simp; done) | (simp; omega))); (focus (omega)))
                all_goals (refine E.AW.first 4 rfl (by kernel_rfl) (by kernel_rfl) (by kernel_rfl) rfl rfl rfl (E.PV.load_int (E.rdr (i := 0) rfl) na3 rfl rfl ?_) ?_; (focus (omega)))
                all_goals (refine E.AW.first 5 rfl (by kernel_rfl) (by kernel_rfl) (by kernel_rfl) rfl rfl rfl (E.PV.fieldAddr fa30_0 rfl rfl) ?_)
                all_goals (refine E.AW.first 6 rfl (by kernel_rfl) (by kernel_rfl) (by kernel_rfl) rfl rfl rfl (E.PV.load (i := 1) na3 rfl rfl rfl rfl) ?_)
                all_goals (refine E.AW.first 7 rfl (by kernel_rfl) (by kernel_rfl) (by kernel_rfl) rfl rfl rfl (E.PV.eql rfl rfl rfl) ?_)
                all_goals (refine E.AW.first 8 rfl (by kernel_rfl) (by kernel_rfl) (by kernel_rfl) rfl rfl rfl (E.PV.pick_t rfl rfl rfl) ?_)
                all_goals (refine E.AW.first 9 rfl (by kernel_rfl) (by kernel_rfl) (by kernel_rfl) rfl rfl rfl (E.PV.move rfl rfl) ?_)
                all_goals (refine E.AW.split 102 rfl (fun hc => ?_) (fun hc => ?_) <;> (try simp only [E.b0, E.b1, E.b2, E.b3, E.b4, E.b5, E.b6, E.b7, E.b8, E.b9, E.b10, E.b11, E.b12, E.b13, E.b14, E.b15, E.b16, E.b17, E.b18, E.b19, E.b20, reduceCtorEq] at hc) <;> (try (exfalso; first | assumption | contradiction | omega)))
                all_goals (refine E.AW.first 10 rfl (by kernel_rfl) (by kernel_rfl) (by kernel_rfl) rfl rfl rfl (E.PV.move rfl rfl) ?_)
                all_goals (refine E.AW.first 11 rfl (by kernel_rfl) (by kernel_rfl) (by kernel_rfl) rfl rfl rfl (E.PV.eql rfl rfl rfl) ?_)
                all_goals (refine E.AW.first 12 rfl (by kernel_rfl) (by kernel_rfl) (by kernel_rfl) rfl rfl rfl (E.PV.pick_t rfl rfl rfl) ?_)
                all_goals (refine E.AW.first 13 rfl (by kernel_rfl) (by kernel_rfl) (by kernel_rfl) rfl rfl rfl (E.PV.move rfl rfl) ?_)
                all_goals (refine E.AW.put 106 (.bool true) (v := .bool true) rfl rfl ?_)
                all_goals (refine E.AW.first 14 rfl (by kernel_rfl) (by kernel_rfl) (by kernel_rfl) rfl rfl rfl (E.PV.move rfl rfl) ?_)
                all_goals (refine E.AW.first 15 rfl (by kernel_rfl) (by kernel_rfl) (by kernel_rfl) rfl rfl rfl (E.PV.eql rfl rfl rfl) ?_)
                all_goals (refine E.AW.first 16 rfl (by kernel_rfl) (by kernel_rfl) (by kernel_rfl) rfl rfl rfl (E.PV.pick_t rfl rfl rfl) ?_)
                all_goals (refine E.AW.first 17 rfl (by kernel_rfl) (by kernel_rfl) (by kernel_rfl) rfl rfl rfl (E.PV.move rfl rfl) ?_)
                all_goals (refine E.AW.put 110 (.bool true) (v := .bool true) rfl rfl ?_)
                all_goals (refine E.AW.first 18 rfl (by kernel_rfl) (by kernel_rfl) (by kernel_rfl) rfl rfl rfl (E.PV.move rfl rfl) ?_)
                all_goals (refine E.AW.first 19 rfl (by kernel_rfl) (by kernel_rfl) (by kernel_rfl) rfl rfl rfl (E.PV.move rfl rfl) ?_)
                all_goals (refine E.AW.first 20 rfl (by kernel_rfl) (by kernel_rfl) (by kernel_rfl) rfl rfl rfl (E.PV.tail Try.underlying31 in3 rfl rfl rfl (by omega)) ?_)
                all_goals (refine E.AW.put 113 (.slice (E.tl AR0 cR0) (Rt.routeR g.q t a b tick).1.tail.length (cR0 - 1)) rfl (by rw [htl]) ?_)
                all_goals (refine E.AW.one 21 (by kernel_rfl) rfl ?_)
                all_goals ((refine E.OW.call nm22 rfl rfl rfl rfl rfl rfl _ (fun w hw => rSameInts_ok _ _ (Rt.routeR g.q t a b tick).1.tail _ _ (Rt.routeR g.q t a b tick).1.tail w ?_ ?_ (by first | exact E.Rd.tail (hw.rdrow (i := 0) rfl) hcR | exact E.Rd.tail (hw.rdrow (i := 1) rfl) hcR | exact E.Rd.tail (hw.rdrow (i := 2) rfl) hcR | exact E.Rd.tail (hw.rdrow (i := 3) rfl) hcR | exact E.Rd.tail (hw.rdrow (i := 4) rfl) hcR)) ?_; (focus (omega)); (focus (exact hw.rdrow (i := 0) rfl)); rintro _ _ ⟨rfl, rfl⟩))
                all_goals (first | (refine E.AW.nil [2, 2] rfl ?_) | (refine E.AW.nil [3, 3] rfl ?_) | (refine E.AW.nil [4, 4] rfl ?_) | (refine E.AW.nil [5, 5] rfl ?_) | (refine E.AW.nil [6, 6] rfl ?_) | (refine E.AW.nil [7, 7] rfl ?_) | (refine E.AW.nil [8, 8] rfl ?_) | (refine E.AW.nil [1, 1] rfl ?_) | (refine E.AW.nil [0, 0] rfl ?_))
                all_goals (refine E.AW.first 22 rfl (by kernel_rfl) (by kernel_rfl) (by kernel_rfl) rfl rfl rfl (E.PV.pick_t rfl rfl rfl) ?_)
                all_goals (refine E.AW.first 23 rfl (by kernel_rfl) (by kernel_rfl) (by kernel_rfl) rfl rfl rfl (E.PV.move rfl rfl) ?_)
                all_goals (refine E.AW.put 116 (.bool true) rfl (congrArg Value.bool ?_) ?_; (focus ((simp only [E.b0, E.b1, E.b2, E.b3, E.b4, E.b5, E.b6, E.b7, E.b8, E.b9, E.b10, E.b11, E.b12, E.b13, E.b14, E.b15, E.b16, E.b17, E.b18, E.b19, E.b20]; done))))
                all_goals (refine E.AW.first 24 rfl (by kernel_rfl) (by kernel_rfl) (by kernel_rfl) rfl rfl rfl (E.PV.move rfl rfl) ?_)
                all_goals (refine E.AW.first 25 rfl (by kernel_rfl) (by kernel_rfl) (by kernel_rfl) rfl rfl rfl (E.PV.move rfl rfl) ?_)
                all_goals (refine E.AW.first 26 rfl (by kernel_rfl) (by kernel_rfl) (by kernel_rfl) rfl rfl rfl (E.PV.len Try.underlying31 rfl rfl) ?_)
                all_goals (refine E.AW.first 27 rfl (by kernel_rfl) (by kernel_rfl) (by kernel_rfl) rfl rfl rfl (E.PV.sub_i64 rfl rfl rfl ?_) ?_; (focus (omega)))
                all_goals (refine E.AW.first 28 rfl (by kernel_rfl) (by kernel_rfl) (by kernel_rfl) rfl rfl rfl (E.PV.eql rfl rfl rfl) ?_)
                all_goals (refine E.AW.first 29 rfl (by kernel_rfl) (by kernel_rfl) (by kernel_rfl) rfl rfl rfl (E.PV.pick_t rfl rfl rfl) ?_)
                all_goals (refine E.AW.first 30 rfl (by kernel_rfl) (by kernel_rfl) (by kernel_rfl) rfl rfl rfl (E.PV.assign rfl rfl) ?_)
                all_goals (refine E.AW.done (by kernel_rfl) ?_)
                all_goals (
                  skip
                  refine E.then_n ?_
                  refine E.CW.ret ?_
                  refine E.KR.one [] Try.results9 rfl rfl ?_
                  exact ⟨by first | rfl | (simp_all; done), rfl⟩))))))
end Go.Proofs.Ytflkbabhbnmajaa

/- Walks (printed by gen.py). -/
namespace Go.Proofs.Ytflkbabhbnmajaa
open Go Go.RowKit
set_option linter.unusedSimpArgs false
set_option linter.unusedVariables false

set_option maxRecDepth 100000 in
theorem RouteRows_ok (g : E.Cfg) (t a b tick : Int) (w0 : World) (hg : g.rd w0 (E.Old w0)) (hgf : g.q.fit) (ht : 0 ≤ tick ∧ tick < 18446744073709551616) :
    Calls Try.prog 12 #[g.v, .int .i64 t, .agg #[.int .i64 a, .int .i64 b], .int .u64 tick] w0 (E.Post w0 (E.Old w0) fun v Hn => v = .bool true ∧ Hn = []) := by
  obtain ⟨hX1, hX2, hX3, hX4⟩ := id hg
  have hgl := E.Cfg.fit_len hgf
  have htl : (Rt.tableR g.q t a b).1.length ≤ g.s.length := Rt.tableR_len _ _ _ _
  refine E.calls_of (vs := [g.v, .int .i64 t, .agg #[.int .i64 a, .int .i64 b], .int .u64 tick]) (H := []) Try.func12 Try.ntmps12 rfl rfl (E.HA.start w0) ?_
  refine E.CW.seq ?_
  refine E.CW.region ?_
  refine E.OW.box rfl rfl rfl rfl rfl rfl (fun B1 => ?_)
  refine E.OW.box rfl rfl rfl rfl rfl rfl (fun B2 => ?_)
  refine E.OW.pure rfl rfl rfl (E.PV.assign rfl rfl) ?_
  refine E.OW.nil ?_
  refine E.then_n ?_
  refine E.CW.seq ?_
  refine E.CW.region ?_
  (refine E.OW.call nm38 rfl rfl rfl rfl rfl rfl _ (fun w hw => alive4_ok w) ?_; rintro _ _ ⟨rfl, rfl⟩)
  refine E.OW.pure rfl rfl rfl (E.PV.assign rfl rfl) ?_
  refine E.OW.nil ?_
  refine E.then_n ?_
  refine E.CW.seq ?_
  refine E.CW.seq ?_
  refine E.CW.region ?_
  refine E.OW.pure rfl rfl rfl (E.PV.loads (i := 1) is28 rfl rfl rfl rfl) ?_
  (refine E.OW.call nm19 rfl rfl rfl rfl rfl rfl _ (fun w hw => Gt_ok _ w ?_ ?_) ?_; (focus (refine hw.rdC ?_; assumption)); (focus (assumption)); rintro _ _ ⟨bG, rfl, rfl⟩)
  refine E.OW.pure rfl rfl rfl (E.PV.move rfl rfl) ?_
  all_goals (refine E.OW.split 18 rfl (fun hc => ?_) (fun hc => ?_) <;> (try simp only [E.b0, E.b1, E.b2, E.b3, E.b4, E.b5, E.b6, E.b7, E.b8, E.b9, E.b10, E.b11, E.b12, E.b13, E.b14, E.b15, E.b16, E.b17, E.b18, E.b19, E.b20, reduceCtorEq] at hc) <;> (try (exfalso; first | assumption | contradiction | omega)))
  all_goals (first | (refine E.OW.off rfl rfl rfl ?_) | (refine E.OW.pure rfl rfl rfl (E.PV.move rfl rfl) ?_))
  all_goals (first | (refine E.OW.off rfl rfl rfl ?_) | (refine E.OW.pure rfl rfl rfl (E.PV.gtr rfl rfl rfl) ?_))
  all_goals (first | (refine E.OW.pure rfl rfl rfl (E.PV.pick_t rfl rfl rfl) ?_) | (refine E.OW.pure rfl rfl rfl (E.PV.pick_f rfl rfl rfl) ?_))
  all_goals (refine E.OW.pure rfl rfl rfl (E.PV.move rfl rfl) ?_)
  all_goals (first | (refine E.OW.put 22 (.bool true) (v := .bool true) rfl rfl ?_) | (refine E.OW.split 22 rfl (fun hc => ?_) (fun hc => ?_) <;> (try simp only [E.b0, E.b1, E.b2, E.b3, E.b4, E.b5, E.b6, E.b7, E.b8, E.b9, E.b10, E.b11, E.b12, E.b13, E.b14, E.b15, E.b16, E.b17, E.b18, E.b19, E.b20, reduceCtorEq] at hc) <;> (try (exfalso; first | assumption | contradiction | omega))))
  all_goals (first | (refine E.OW.off rfl rfl rfl ?_) | (refine E.OW.pure rfl rfl rfl (E.PV.move rfl rfl) ?_))
  all_goals (first | (refine E.OW.off rfl rfl rfl ?_) | (refine E.OW.pure rfl rfl rfl (E.PV.not rfl rfl) ?_))
  all_goals (first | (refine E.OW.pure rfl rfl rfl (E.PV.pick_t rfl rfl rfl) ?_) | (refine E.OW.pure rfl rfl rfl (E.PV.pick_f rfl rfl rfl) ?_))
  all_goals (
    refine E.OW.nil ?_
    refine E.then_n ?_
    refine E.CW.cond rfl (fun hc => ?_) (fun hc => ?_)
    · first | ((cases hc; done)) | (simp only [E.b0, E.b1, E.b2, E.b3, E.b4, E.b5, E.b6, E.b7, E.b8, E.b9, E.b10, E.b11, E.b12, E.b13, E.b14, E.b15, E.b16, E.b17, E.b18, E.b19, E.b20, reduceCtorEq] at hc)
      all_goals (
        refine E.CW.seq ?_
        refine E.CW.region ?_
        refine E.OW.pure rfl rfl rfl (E.PV.move rfl rfl) ?_
        refine E.OW.pure rfl rfl rfl (E.PV.assign rfl rfl) ?_
        refine E.OW.nil ?_
        refine E.then_n ?_
        refine E.CW.ret ?_
        refine E.then_ret ?_
        refine E.KR.one [] Try.results12 rfl rfl ?_
        exact ⟨by first | rfl | (refine congrArg Value.bool (decide_eq_true ?_); omega) | (simp_all; done), rfl⟩)
    · first | ((cases hc; done)) | (simp only [E.b0, E.b1, E.b2, E.b3, E.b4, E.b5, E.b6, E.b7, E.b8, E.b9, E.b10, E.b11, E.b12, E.b13, E.b14, E.b15, E.b16, E.b17, E.b18, E.b19, E.b20, reduceCtorEq] at hc)
      all_goals (
        refine E.CW.skip ?_
        refine E.then_n ?_
        refine E.CW.seq ?_
        refine E.CW.region ?_
        refine E.OW.pure rfl rfl rfl (E.PV.loads (i := 1) is28 rfl rfl rfl rfl) ?_
        refine E.OW.pure rfl rfl rfl (E.PV.move rfl rfl) ?_
        refine E.OW.pure rfl rfl rfl (E.PV.loads (i := 0) is30 rfl rfl rfl rfl) ?_
        (refine E.OW.call nm23 rfl rfl rfl rfl rfl rfl _ (fun w hw => Tb_ok _ _ _ _ w ?_ ?_) ?_; (focus (refine hw.rdC ?_; assumption)); (focus (assumption)); rintro _ _ ⟨ATb, cTb, rfl, rfl⟩)
        refine E.OW.pure rfl rfl rfl (E.PV.move rfl rfl) ?_
        refine E.OW.pure rfl rfl rfl (E.PV.extract rfl rfl rfl) ?_
        refine E.OW.pure rfl rfl rfl (E.PV.extract rfl rfl rfl) ?_
        refine E.OW.pure rfl rfl rfl (E.PV.assign rfl rfl) ?_
        refine E.OW.pure rfl rfl rfl (E.PV.assign rfl rfl) ?_
        refine E.OW.nil ?_
        refine E.then_n ?_
        refine E.CW.seq ?_
        refine E.CW.region ?_
        refine E.OW.pure rfl rfl rfl (E.PV.loads (i := 2) is28 rfl rfl rfl rfl) ?_
        refine E.OW.pure rfl rfl rfl (E.PV.move rfl rfl) ?_
        refine E.OW.pure rfl rfl rfl (E.PV.loads (i := 1) is30 rfl rfl rfl rfl) ?_
        refine E.OW.pure rfl rfl rfl (E.PV.move rfl rfl) ?_
        (refine E.OW.call nm39 rfl rfl rfl rfl rfl rfl _ (fun w hw => Arv_ok g t a b tick w ?_ ?_ ?_) ?_; (focus (refine hw.rdC ?_; assumption)); (focus (assumption)); (focus (assumption)); rintro _ _ ⟨rfl, rfl⟩)
        refine E.OW.pure rfl rfl rfl (E.PV.move rfl rfl) ?_
        refine E.OW.pure rfl rfl rfl (E.PV.extract rfl rfl rfl) ?_
        refine E.OW.pure rfl rfl rfl (E.PV.extract rfl rfl rfl) ?_
        refine E.OW.pure rfl rfl rfl (E.PV.assign rfl rfl) ?_
        refine E.OW.pure rfl rfl rfl (E.PV.assign rfl rfl) ?_
        refine E.OW.nil ?_
        refine E.then_n ?_
        refine E.CW.seq ?_
        refine E.CW.seq ?_
        rcases Rt.rows_two g.q t a b tick (by omega) (by omega) with ⟨hr0, hr1, hr2⟩ | ⟨hr0, hr1, hr3, hr2⟩
        all_goals have hgs : g.q.s.length = g.s.length := rfl
        · skip
          refine E.CW.region ?_
          refine E.OW.pure rfl rfl rfl (E.PV.move rfl rfl) ?_
          refine E.OW.pure rfl rfl rfl (E.PV.neq rfl rfl rfl) ?_
          refine E.OW.nil ?_
          refine E.then_n ?_
          refine E.CW.cond rfl (fun hc => ?_) (fun hc => ?_)
          · simp only [E.b0, E.b1, E.b2, E.b3, E.b4, E.b5, E.b6, E.b7, E.b8, E.b9, E.b10, E.b11, E.b12, E.b13, E.b14, E.b15, E.b16, E.b17, E.b18, E.b19, E.b20, reduceCtorEq] at hc
            all_goals (
              refine E.CW.seq ?_
              refine E.CW.region ?_
              refine E.OW.pure rfl rfl rfl (E.PV.move rfl rfl) ?_
              refine E.OW.pure rfl rfl rfl (E.PV.move rfl rfl) ?_
              all_goals (refine E.OW.put 45 (.bool true) (v := .bool true) rfl rfl ?_)
              all_goals (refine E.OW.pure rfl rfl rfl (E.PV.move rfl rfl) ?_)
              all_goals (refine E.OW.pure rfl rfl rfl (E.PV.move rfl rfl) ?_)
              all_goals (refine E.OW.pure rfl rfl rfl (E.PV.eql rfl rfl rfl) ?_)
              all_goals (refine E.OW.pure rfl rfl rfl (E.PV.pick_t rfl rfl rfl) ?_)
              all_goals (refine E.OW.pure rfl rfl rfl (E.PV.move rfl rfl) ?_)
              all_goals (refine E.OW.put 50 (.bool true) rfl (congrArg Value.bool ?_) ?_; (focus ((simp only [E.b0, E.b1, E.b2, E.b3, E.b4, E.b5, E.b6, E.b7, E.b8, E.b9, E.b10, E.b11, E.b12, E.b13, E.b14, E.b15, E.b16, E.b17, E.b18, E.b19, E.b20]; omega))))
              all_goals (refine E.OW.pure rfl rfl rfl (E.PV.move rfl rfl) ?_)
              all_goals (refine E.OW.pure rfl rfl rfl (E.PV.len Try.underlying31 rfl rfl) ?_)
              all_goals (refine E.OW.pure rfl rfl rfl (E.PV.eql rfl rfl rfl) ?_)
              all_goals (refine E.OW.pure rfl rfl rfl (E.PV.pick_t rfl rfl rfl) ?_)
              all_goals (refine E.OW.pure rfl rfl rfl (E.PV.assign rfl rfl) ?_)
              all_goals (
                refine E.OW.nil ?_
                refine E.then_n ?_
                refine E.CW.ret ?_
                refine E.then_ret ?_
                refine E.KR.one [] Try.results12 rfl rfl ?_
                exact ⟨by first | rfl | (refine congrArg Value.bool (decide_eq_true ?_); omega) | (simp_all; done), rfl⟩))
          · simp only [E.b0, E.b1, E.b2, E.b3, E.b4, E.b5, E.b6, E.b7, E.b8, E.b9, E.b10, E.b11, E.b12, E.b13, E.b14, E.b15, E.b16, E.b17, E.b18, E.b19, E.b20, reduceCtorEq] at hc
            all_goals (exfalso; contradiction)
        · skip
          refine E.CW.region ?_
          refine E.OW.pure rfl rfl rfl (E.PV.move rfl rfl) ?_
          refine E.OW.pure rfl rfl rfl (E.PV.neq rfl rfl rfl) ?_
          refine E.OW.nil ?_
          refine E.then_n ?_
          refine E.CW.cond rfl (fun hc => ?_) (fun hc => ?_)
          · simp only [E.b0, E.b1, E.b2, E.b3, E.b4, E.b5, E.b6, E.b7, E.b8, E.b9, E.b10, E.b11, E.b12, E.b13, E.b14, E.b15, E.b16, E.b17, E.b18, E.b19, E.b20, reduceCtorEq] at hc
            all_goals (exfalso; contradiction)
          · simp only [E.b0, E.b1, E.b2, E.b3, E.b4, E.b5, E.b6, E.b7, E.b8, E.b9, E.b10, E.b11, E.b12, E.b13, E.b14, E.b15, E.b16, E.b17, E.b18, E.b19, E.b20, reduceCtorEq] at hc
            all_goals (
              refine E.CW.skip ?_
              refine E.then_n ?_
              refine E.CW.seq ?_
              refine E.CW.seq ?_
              refine E.CW.region ?_
              refine E.OW.pure rfl rfl rfl (E.PV.move rfl rfl) ?_
              refine E.OW.pure rfl rfl rfl (E.PV.len Try.underlying31 rfl rfl) ?_
              refine E.OW.pure rfl rfl rfl (E.PV.fieldAddr fa28_1 rfl rfl) ?_
              refine E.OW.pure rfl rfl rfl (E.PV.load (i := 2) na22 rfl rfl rfl rfl) ?_
              refine E.OW.pure rfl rfl rfl (E.PV.len Try.underlying22 rfl rfl) ?_
              refine E.OW.pure rfl rfl rfl (E.PV.neq rfl rfl rfl) ?_
              refine E.OW.pure rfl rfl rfl (E.PV.move rfl rfl) ?_
              all_goals (refine E.OW.put 61 (.bool false) rfl (congrArg Value.bool ?_) ?_; (focus ((simp only [E.b0, E.b1, E.b2, E.b3, E.b4, E.b5, E.b6, E.b7, E.b8, E.b9, E.b10, E.b11, E.b12, E.b13, E.b14, E.b15, E.b16, E.b17, E.b18, E.b19, E.b20]; omega))))
              all_goals (refine E.OW.pure rfl rfl rfl (E.PV.move rfl rfl) ?_)
              all_goals (refine E.OW.pure rfl rfl rfl (E.PV.len Try.underlying31 rfl rfl) ?_)
              all_goals (refine E.OW.pure rfl rfl rfl (E.PV.eql rfl rfl rfl) ?_)
              all_goals (refine E.OW.pure rfl rfl rfl (E.PV.pick_f rfl rfl rfl) ?_)
              all_goals (
                refine E.OW.nil ?_
                refine E.then_n ?_
                refine E.CW.cond rfl (fun hc => ?_) (fun hc => ?_)
                · simp only [E.b0, E.b1, E.b2, E.b3, E.b4, E.b5, E.b6, E.b7, E.b8, E.b9, E.b10, E.b11, E.b12, E.b13, E.b14, E.b15, E.b16, E.b17, E.b18, E.b19, E.b20, reduceCtorEq] at hc
                  all_goals (exfalso; omega)
                · simp only [E.b0, E.b1, E.b2, E.b3, E.b4, E.b5, E.b6, E.b7, E.b8, E.b9, E.b10, E.b11, E.b12, E.b13, E.b14, E.b15, E.b16, E.b17, E.b18, E.b19, E.b20, reduceCtorEq] at hc
                  all_goals (
                    refine E.CW.skip ?_
                    refine E.then_n ?_
                    refine E.CW.seq ?_
                    have hm0 := Int.emod_nonneg tick (b := ((Rt.tableR g.q t a b).1.length : Int)) (by omega)
                    have hm1 := Int.emod_lt_of_pos tick (b := ((Rt.tableR g.q t a b).1.length : Int)) (by omega)
                    refine E.CW.region ?_
                    refine E.OW.pure rfl rfl rfl (E.PV.move rfl rfl) ?_
                    refine E.OW.pure rfl rfl rfl (E.PV.move rfl rfl) ?_
                    refine E.OW.pure rfl rfl rfl (E.PV.move rfl rfl) ?_
                    refine E.OW.pure rfl rfl rfl (E.PV.len Try.underlying31 rfl rfl) ?_
                    refine E.OW.pure rfl rfl rfl (E.PV.conv_in Try.underlying3 Try.underlying26 rfl rfl ?_) ?_; (focus (first | exact E.wrap_u8 _ | (simp only [IntKind.wrap_i64, IntKind.wrap_u64, IntKind.wrap_u8]; omega)))
                    refine E.OW.pure rfl rfl rfl (E.PV.rem_i64 rfl rfl rfl ?_ ?_) ?_; (focus (omega)); (focus (omega))
                    refine E.OW.pure rfl rfl rfl (E.PV.conv_in Try.underlying26 Try.underlying3 rfl rfl ?_) ?_; (focus (first | exact E.wrap_u8 _ | (simp only [IntKind.wrap_i64, IntKind.wrap_u64, IntKind.wrap_u8]; omega)))
                    refine E.OW.pure rfl rfl rfl (E.PV.indexAddr1 (E.rdr (i := 0) rfl) Try.underlying31 in3 rfl rfl rfl (E.tn ?_) ?_ ?_) ?_; (focus (omega)); (focus (first | (simp; done) | (simp; omega))); (focus (omega))
                    refine E.OW.pure rfl rfl rfl (E.PV.load_int (E.rdr (i := 0) rfl) na3 rfl rfl ?_) ?_; (focus (omega))
                    refine E.OW.pure rfl rfl rfl (E.PV.assign rfl rfl) ?_
                    refine E.OW.nil ?_
                    refine E.then_n ?_
                    refine E.CW.seq ?_
                    refine E.CW.region ?_
                    refine E.OW.pure rfl rfl rfl (E.PV.move rfl rfl) ?_
                    refine E.OW.pure rfl rfl rfl (E.PV.move rfl rfl) ?_
                    all_goals (refine E.OW.put 76 (.bool true) (v := .bool true) rfl rfl ?_)
                    all_goals (refine E.OW.pure rfl rfl rfl (E.PV.move rfl rfl) ?_)
                    all_goals (refine E.OW.pure rfl rfl rfl (E.PV.eql rfl rfl rfl) ?_)
                    all_goals (refine E.OW.pure rfl rfl rfl (E.PV.move rfl rfl) ?_)
                    all_goals (refine E.OW.split 79 rfl (fun hc => ?_) (fun hc => ?_) <;> (try simp only [E.b0, E.b1, E.b2, E.b3, E.b4, E.b5, E.b6, E.b7, E.b8, E.b9, E.b10, E.b11, E.b12, E.b13, E.b14, E.b15, E.b16, E.b17, E.b18, E.b19, E.b20, reduceCtorEq] at hc) <;> (try (exfalso; first | assumption | contradiction | omega)))
                    all_goals (first | (refine E.OW.off rfl rfl rfl ?_) | (refine E.OW.pure rfl rfl rfl (E.PV.move rfl rfl) ?_))
                    all_goals (first | (refine E.OW.off rfl rfl rfl ?_) | (refine E.OW.pure rfl rfl rfl (E.PV.move rfl rfl) ?_))
                    all_goals (first | (refine E.OW.off rfl rfl rfl ?_) | (refine E.OW.pure rfl rfl rfl (E.PV.eql rfl rfl rfl) ?_))
                    all_goals (first | (refine E.OW.pure rfl rfl rfl (E.PV.pick_t rfl rfl rfl) ?_) | (refine E.OW.pure rfl rfl rfl (E.PV.pick_f rfl rfl rfl) ?_))
                    all_goals (refine E.OW.pure rfl rfl rfl (E.PV.move rfl rfl) ?_)
                    all_goals (first | (refine E.OW.put 84 (.bool false) (v := .bool false) rfl rfl ?_) | (refine E.OW.put 84 (.bool true) rfl (congrArg Value.bool ?_) ?_; (focus ((simp only [E.b0, E.b1, E.b2, E.b3, E.b4, E.b5, E.b6, E.b7, E.b8, E.b9, E.b10, E.b11, E.b12, E.b13, E.b14, E.b15, E.b16, E.b17, E.b18, E.b19, E.b20]; omega)))))
                    all_goals (first | (refine E.OW.off rfl rfl rfl ?_) | (refine E.OW.pure rfl rfl rfl (E.PV.move rfl rfl) ?_))
                    all_goals (first | (refine E.OW.off rfl rfl rfl ?_) | (refine E.OW.pure rfl rfl rfl (E.PV.eql rfl rfl rfl) ?_))
                    all_goals (first | (refine E.OW.off rfl rfl rfl ?_) | (refine E.OW.pure rfl rfl rfl (E.PV.move rfl rfl) ?_))
                    all_goals (first | (refine E.OW.put 87 (.tuple #[]) (v := .tuple #[]) rfl rfl ?_) | (refine E.OW.put 87 (.bool true) rfl (congrArg Value.bool ?_) ?_; (focus ((simp only [E.b0, E.b1, E.b2, E.b3, E.b4, E.b5, E.b6, E.b7, E.b8, E.b9, E.b10, E.b11, E.b12, E.b13, E.b14, E.b15, E.b16, E.b17, E.b18, E.b19, E.b20]; omega)))))
                    all_goals (first | (refine E.OW.off rfl rfl rfl ?_) | (refine E.OW.pure rfl rfl rfl (E.PV.move rfl rfl) ?_))
                    all_goals (first | (refine E.OW.off rfl rfl rfl ?_) | (refine E.OW.pure rfl rfl rfl (E.PV.eql rfl rfl rfl) ?_))
                    all_goals (first | (refine E.OW.off rfl rfl rfl ?_) | (refine E.OW.pure rfl rfl rfl (E.PV.pick_t rfl rfl rfl) ?_))
                    all_goals (first | (refine E.OW.pure rfl rfl rfl (E.PV.pick_t rfl rfl rfl) ?_) | (refine E.OW.pure rfl rfl rfl (E.PV.pick_f rfl rfl rfl) ?_))
                    all_goals (refine E.OW.pure rfl rfl rfl (E.PV.pick_t rfl rfl rfl) ?_)
                    all_goals (refine E.OW.pure rfl rfl rfl (E.PV.assign rfl rfl) ?_)
                    all_goals (
                      refine E.OW.nil ?_
                      refine E.then_n ?_
                      refine E.CW.ret ?_
                      refine E.KR.one [] Try.results12 rfl rfl ?_
                      exact ⟨by first | rfl | (refine congrArg Value.bool (decide_eq_true ?_); omega) | (simp_all; done), rfl⟩))))))
end Go.Proofs.Ytflkbabhbnmajaa

/- Walks (printed by gen.py). -/
namespace Go.Proofs.Ytflkbabhbnmajaa
open Go Go.RowKit
set_option linter.unusedSimpArgs false
set_option linter.unusedVariables false

set_option maxRecDepth 100000 in
theorem RouteWaits_ok (g : E.Cfg) (t a b tick : Int) (w0 : World) (hg : g.rd w0 (E.Old w0)) (hgf : g.q.fit) (ht : 0 ≤ tick ∧ tick < 18446744073709551616) :
    Calls Try.prog 10 #[g.v, .int .i64 t, .agg #[.int .i64 a, .int .i64 b], .int .u64 tick] w0 (E.Post w0 (E.Old w0) fun v Hn => v = .bool true ∧ Hn = []) := by
  obtain ⟨hX1, hX2, hX3, hX4⟩ := id hg
  have hgl := E.Cfg.fit_len hgf
  have hb1 := Rt.arv_bd g.q t a b tick
  have hb2 := Rt.arv_bd g.q t a b (tick + 1)
  refine E.calls_of (vs := [g.v, .int .i64 t, .agg #[.int .i64 a, .int .i64 b], .int .u64 tick]) (H := []) Try.func10 Try.ntmps10 rfl rfl (E.HA.start w0) ?_
  refine E.CW.seq ?_
  refine E.CW.region ?_
  refine E.OW.box rfl rfl rfl rfl rfl rfl (fun B1 => ?_)
  refine E.OW.box rfl rfl rfl rfl rfl rfl (fun B2 => ?_)
  refine E.OW.pure rfl rfl rfl (E.PV.assign rfl rfl) ?_
  refine E.OW.nil ?_
  refine E.then_n ?_
  refine E.CW.seq ?_
  refine E.CW.region ?_
  (refine E.OW.call nm38 rfl rfl rfl rfl rfl rfl _ (fun w hw => alive4_ok w) ?_; rintro _ _ ⟨rfl, rfl⟩)
  refine E.OW.pure rfl rfl rfl (E.PV.assign rfl rfl) ?_
  refine E.OW.nil ?_
  refine E.then_n ?_
  refine E.CW.seq ?_
  refine E.CW.seq ?_
  refine E.CW.region ?_
  refine E.OW.pure rfl rfl rfl (E.PV.loads (i := 1) is28 rfl rfl rfl rfl) ?_
  (refine E.OW.call nm19 rfl rfl rfl rfl rfl rfl _ (fun w hw => Gt_ok _ w ?_ ?_) ?_; (focus (refine hw.rdC ?_; assumption)); (focus (assumption)); rintro _ _ ⟨bG, rfl, rfl⟩)
  refine E.OW.pure rfl rfl rfl (E.PV.move rfl rfl) ?_
  all_goals (refine E.OW.split 19 rfl (fun hc => ?_) (fun hc => ?_) <;> (try simp only [E.b0, E.b1, E.b2, E.b3, E.b4, E.b5, E.b6, E.b7, E.b8, E.b9, E.b10, E.b11, E.b12, E.b13, E.b14, E.b15, E.b16, E.b17, E.b18, E.b19, E.b20, reduceCtorEq] at hc) <;> (try (exfalso; first | assumption | contradiction | omega)))
  all_goals (first | (refine E.OW.off rfl rfl rfl ?_) | (refine E.OW.pure rfl rfl rfl (E.PV.move rfl rfl) ?_))
  all_goals (first | (refine E.OW.off rfl rfl rfl ?_) | (refine E.OW.pure rfl rfl rfl (E.PV.gtr rfl rfl rfl) ?_))
  all_goals (first | (refine E.OW.pure rfl rfl rfl (E.PV.pick_t rfl rfl rfl) ?_) | (refine E.OW.pure rfl rfl rfl (E.PV.pick_f rfl rfl rfl) ?_))
  all_goals (refine E.OW.pure rfl rfl rfl (E.PV.move rfl rfl) ?_)
  all_goals (first | (refine E.OW.put 23 (.bool true) (v := .bool true) rfl rfl ?_) | (refine E.OW.split 23 rfl (fun hc => ?_) (fun hc => ?_) <;> (try simp only [E.b0, E.b1, E.b2, E.b3, E.b4, E.b5, E.b6, E.b7, E.b8, E.b9, E.b10, E.b11, E.b12, E.b13, E.b14, E.b15, E.b16, E.b17, E.b18, E.b19, E.b20, reduceCtorEq] at hc) <;> (try (exfalso; first | assumption | contradiction | omega))))
  all_goals (first | (refine E.OW.off rfl rfl rfl ?_) | (refine E.OW.pure rfl rfl rfl (E.PV.move rfl rfl) ?_))
  all_goals (first | (refine E.OW.off rfl rfl rfl ?_) | (refine E.OW.pure rfl rfl rfl (E.PV.not rfl rfl) ?_))
  all_goals (first | (refine E.OW.pure rfl rfl rfl (E.PV.pick_t rfl rfl rfl) ?_) | (refine E.OW.pure rfl rfl rfl (E.PV.pick_f rfl rfl rfl) ?_))
  all_goals (
    refine E.OW.nil ?_
    refine E.then_n ?_
    refine E.CW.cond rfl (fun hc => ?_) (fun hc => ?_)
    · first | ((cases hc; done)) | (simp only [E.b0, E.b1, E.b2, E.b3, E.b4, E.b5, E.b6, E.b7, E.b8, E.b9, E.b10, E.b11, E.b12, E.b13, E.b14, E.b15, E.b16, E.b17, E.b18, E.b19, E.b20, reduceCtorEq] at hc)
      all_goals (
        refine E.CW.seq ?_
        refine E.CW.region ?_
        refine E.OW.pure rfl rfl rfl (E.PV.move rfl rfl) ?_
        refine E.OW.pure rfl rfl rfl (E.PV.assign rfl rfl) ?_
        refine E.OW.nil ?_
        refine E.then_n ?_
        refine E.CW.ret ?_
        refine E.then_ret ?_
        refine E.KR.one [] Try.results10 rfl rfl ?_
        exact ⟨by first | rfl | (refine congrArg Value.bool (decide_eq_true ?_); omega) | (simp_all; done), rfl⟩)
    · first | ((cases hc; done)) | (simp only [E.b0, E.b1, E.b2, E.b3, E.b4, E.b5, E.b6, E.b7, E.b8, E.b9, E.b10, E.b11, E.b12, E.b13, E.b14, E.b15, E.b16, E.b17, E.b18, E.b19, E.b20, reduceCtorEq] at hc)
      all_goals (
        refine E.CW.skip ?_
        refine E.then_n ?_
        refine E.CW.seq ?_
        refine E.CW.region ?_
        refine E.OW.pure rfl rfl rfl (E.PV.loads (i := 1) is28 rfl rfl rfl rfl) ?_
        refine E.OW.pure rfl rfl rfl (E.PV.move rfl rfl) ?_
        refine E.OW.pure rfl rfl rfl (E.PV.loads (i := 0) is30 rfl rfl rfl rfl) ?_
        refine E.OW.pure rfl rfl rfl (E.PV.move rfl rfl) ?_
        (refine E.OW.call nm39 rfl rfl rfl rfl rfl rfl _ (fun w hw => Arv_ok g t a b tick w ?_ ?_ ?_) ?_; (focus (refine hw.rdC ?_; assumption)); (focus (assumption)); (focus (assumption)); rintro _ _ ⟨rfl, rfl⟩)
        refine E.OW.pure rfl rfl rfl (E.PV.move rfl rfl) ?_
        refine E.OW.pure rfl rfl rfl (E.PV.extract rfl rfl rfl) ?_
        refine E.OW.pure rfl rfl rfl (E.PV.extract rfl rfl rfl) ?_
        refine E.OW.pure rfl rfl rfl (E.PV.assign rfl rfl) ?_
        refine E.OW.pure rfl rfl rfl (E.PV.assign rfl rfl) ?_
        refine E.OW.nil ?_
        refine E.then_n ?_
        refine E.CW.seq ?_
        refine E.CW.region ?_
        refine E.OW.pure rfl rfl rfl (E.PV.loads (i := 1) is28 rfl rfl rfl rfl) ?_
        refine E.OW.pure rfl rfl rfl (E.PV.move rfl rfl) ?_
        refine E.OW.pure rfl rfl rfl (E.PV.loads (i := 0) is30 rfl rfl rfl rfl) ?_
        refine E.OW.pure rfl rfl rfl (E.PV.move rfl rfl) ?_
        refine E.OW.pure rfl rfl rfl (E.PV.add_u64 rfl rfl rfl ?_) ?_; (focus (omega))
        (refine E.OW.call nm39 rfl rfl rfl rfl rfl rfl _ (fun w hw => Arv_ok g t a b (tick + 1) w ?_ ?_ (by omega)) ?_; (focus (refine hw.rdC ?_; assumption)); (focus (assumption)); rintro _ _ ⟨rfl, rfl⟩)
        refine E.OW.pure rfl rfl rfl (E.PV.move rfl rfl) ?_
        refine E.OW.pure rfl rfl rfl (E.PV.extract rfl rfl rfl) ?_
        refine E.OW.pure rfl rfl rfl (E.PV.extract rfl rfl rfl) ?_
        refine E.OW.pure rfl rfl rfl (E.PV.assign rfl rfl) ?_
        refine E.OW.pure rfl rfl rfl (E.PV.assign rfl rfl) ?_
        refine E.OW.nil ?_
        refine E.then_n ?_
        refine E.CW.seq ?_
        refine E.CW.region ?_
        refine E.OW.pure rfl rfl rfl (E.PV.fieldAddr fa28_0 rfl rfl) ?_
        refine E.OW.pure rfl rfl rfl (E.PV.loads (i := 1) is24 rfl rfl rfl rfl) ?_
        refine E.OW.pure rfl rfl rfl (E.PV.fieldAddr fa30_0 rfl rfl) ?_
        refine E.OW.pure rfl rfl rfl (E.PV.load (i := 0) na3 rfl rfl rfl rfl) ?_
        (refine E.OW.call nm41 rfl rfl rfl rfl rfl rfl _ (fun w hw => Owner_ok _ _ _ _ g.l a w ?_ ?_) ?_; (focus (omega)); (focus (refine hw.rd ?_; assumption)); rintro _ _ ⟨rfl, rfl⟩)
        refine E.OW.pure rfl rfl rfl (E.PV.move rfl rfl) ?_
        refine E.OW.pure rfl rfl rfl (E.PV.extract rfl rfl rfl) ?_
        refine E.OW.pure rfl rfl rfl (E.PV.extract rfl rfl rfl) ?_
        refine E.OW.pure rfl rfl rfl (E.PV.assign rfl rfl) ?_
        refine E.OW.pure rfl rfl rfl (E.PV.assign rfl rfl) ?_
        refine E.OW.nil ?_
        refine E.then_n ?_
        refine E.CW.seq ?_
        refine E.CW.seq ?_
        refine E.CW.region ?_
        refine E.OW.pure rfl rfl rfl (E.PV.move rfl rfl) ?_
        refine E.OW.pure rfl rfl rfl (E.PV.neq rfl rfl rfl) ?_
        refine E.OW.pure rfl rfl rfl (E.PV.move rfl rfl) ?_
        all_goals (refine E.OW.split 55 rfl (fun hc => ?_) (fun hc => ?_) <;> (try simp only [E.b0, E.b1, E.b2, E.b3, E.b4, E.b5, E.b6, E.b7, E.b8, E.b9, E.b10, E.b11, E.b12, E.b13, E.b14, E.b15, E.b16, E.b17, E.b18, E.b19, E.b20, reduceCtorEq] at hc) <;> (try (exfalso; first | assumption | contradiction | omega)))
        all_goals (first | (refine E.OW.off rfl rfl rfl ?_) | (refine E.OW.pure rfl rfl rfl (E.PV.move rfl rfl) ?_))
        all_goals (first | (refine E.OW.off rfl rfl rfl ?_) | (refine E.OW.pure rfl rfl rfl (E.PV.neq rfl rfl rfl) ?_))
        all_goals (first | (refine E.OW.pure rfl rfl rfl (E.PV.pick_t rfl rfl rfl) ?_) | (refine E.OW.pure rfl rfl rfl (E.PV.pick_f rfl rfl rfl) ?_))
        all_goals (refine E.OW.pure rfl rfl rfl (E.PV.move rfl rfl) ?_)
        all_goals (first | (refine E.OW.put 59 (.bool false) (v := .bool false) rfl rfl ?_) | (refine E.OW.split 59 rfl (fun hc => ?_) (fun hc => ?_) <;> (try simp only [E.b0, E.b1, E.b2, E.b3, E.b4, E.b5, E.b6, E.b7, E.b8, E.b9, E.b10, E.b11, E.b12, E.b13, E.b14, E.b15, E.b16, E.b17, E.b18, E.b19, E.b20, reduceCtorEq] at hc) <;> (try (exfalso; first | assumption | contradiction | omega))))
        all_goals (first | (refine E.OW.off rfl rfl rfl ?_) | (refine E.OW.pure rfl rfl rfl (E.PV.move rfl rfl) ?_))
        all_goals (first | (refine E.OW.off rfl rfl rfl ?_) | (refine E.OW.pure rfl rfl rfl (E.PV.neq rfl rfl rfl) ?_))
        all_goals (first | (refine E.OW.pure rfl rfl rfl (E.PV.pick_t rfl rfl rfl) ?_) | (refine E.OW.pure rfl rfl rfl (E.PV.pick_f rfl rfl rfl) ?_))
        all_goals (refine E.OW.pure rfl rfl rfl (E.PV.move rfl rfl) ?_)
        all_goals (first | (refine E.OW.put 63 (.bool true) (v := .bool true) rfl rfl ?_) | (refine E.OW.split 63 rfl (fun hc => ?_) (fun hc => ?_) <;> (try simp only [E.b0, E.b1, E.b2, E.b3, E.b4, E.b5, E.b6, E.b7, E.b8, E.b9, E.b10, E.b11, E.b12, E.b13, E.b14, E.b15, E.b16, E.b17, E.b18, E.b19, E.b20, reduceCtorEq] at hc) <;> (try (exfalso; first | assumption | contradiction | omega))))
        all_goals (first | (refine E.OW.off rfl rfl rfl ?_) | (refine E.OW.pure rfl rfl rfl (E.PV.move rfl rfl) ?_))
        all_goals (first | (refine E.OW.off rfl rfl rfl ?_) | (refine E.OW.pure rfl rfl rfl (E.PV.move rfl rfl) ?_))
        all_goals (first | (refine E.OW.off rfl rfl rfl ?_) | (refine E.OW.pure rfl rfl rfl (E.PV.neq rfl rfl rfl) ?_))
        all_goals (first | (refine E.OW.pure rfl rfl rfl (E.PV.pick_t rfl rfl rfl) ?_) | (refine E.OW.pure rfl rfl rfl (E.PV.pick_f rfl rfl rfl) ?_))
        all_goals (
          refine E.OW.nil ?_
          refine E.then_n ?_
          refine E.CW.cond rfl (fun hc => ?_) (fun hc => ?_)
          · simp only [E.b0, E.b1, E.b2, E.b3, E.b4, E.b5, E.b6, E.b7, E.b8, E.b9, E.b10, E.b11, E.b12, E.b13, E.b14, E.b15, E.b16, E.b17, E.b18, E.b19, E.b20, reduceCtorEq] at hc
            all_goals (
              refine E.CW.seq ?_
              refine E.CW.region ?_
              refine E.OW.pure rfl rfl rfl (E.PV.move rfl rfl) ?_
              refine E.OW.pure rfl rfl rfl (E.PV.assign rfl rfl) ?_
              refine E.OW.nil ?_
              refine E.then_n ?_
              refine E.CW.ret ?_
              refine E.then_ret ?_
              refine E.KR.one [] Try.results10 rfl rfl ?_
              exact ⟨by first | rfl | (refine congrArg Value.bool (decide_eq_true ?_); omega) | (simp_all; done), rfl⟩)
          · first | ((cases hc; done)) | (simp only [E.b0, E.b1, E.b2, E.b3, E.b4, E.b5, E.b6, E.b7, E.b8, E.b9, E.b10, E.b11, E.b12, E.b13, E.b14, E.b15, E.b16, E.b17, E.b18, E.b19, E.b20, reduceCtorEq] at hc)
            all_goals (
              refine E.CW.skip ?_
              refine E.then_n ?_
              refine E.CW.seq ?_
              refine E.CW.seq ?_
              obtain ⟨hw1, hw2⟩ := Rt.waits_two (g := g.q) (t := t) (a := a) (b := b) (tick := tick) (by omega) (by assumption) (by assumption) (by omega)
              have hws : (g.q.s.length : Int) = (g.s.length : Int) := rfl
              rw [hws] at hw2
              refine E.CW.region ?_
              refine E.OW.pure rfl rfl rfl (E.PV.move rfl rfl) ?_
              refine E.OW.pure rfl rfl rfl (E.PV.eql rfl rfl rfl) ?_
              refine E.OW.pure rfl rfl rfl (E.PV.move rfl rfl) ?_
              all_goals (first | (refine E.OW.put 71 (.bool true) rfl (congrArg Value.bool ?_) ?_; (focus ((simp only [E.b0, E.b1, E.b2, E.b3, E.b4, E.b5, E.b6, E.b7, E.b8, E.b9, E.b10, E.b11, E.b12, E.b13, E.b14, E.b15, E.b16, E.b17, E.b18, E.b19, E.b20]; omega)))) | (refine E.OW.put 71 (.bool false) rfl (congrArg Value.bool ?_) ?_; (focus ((simp only [E.b0, E.b1, E.b2, E.b3, E.b4, E.b5, E.b6, E.b7, E.b8, E.b9, E.b10, E.b11, E.b12, E.b13, E.b14, E.b15, E.b16, E.b17, E.b18, E.b19, E.b20]; omega)))))
              all_goals (first | (refine E.OW.off rfl rfl rfl ?_) | (refine E.OW.pure rfl rfl rfl (E.PV.move rfl rfl) ?_))
              all_goals (first | (refine E.OW.off rfl rfl rfl ?_) | (refine E.OW.pure rfl rfl rfl (E.PV.eql rfl rfl rfl) ?_))
              all_goals (first | (refine E.OW.pure rfl rfl rfl (E.PV.pick_t rfl rfl rfl) ?_) | (refine E.OW.pure rfl rfl rfl (E.PV.pick_f rfl rfl rfl) ?_))
              all_goals (refine E.OW.pure rfl rfl rfl (E.PV.move rfl rfl) ?_)
              all_goals (first | (refine E.OW.put 75 (.bool true) (v := .bool true) rfl rfl ?_) | (refine E.OW.put 75 (.bool false) rfl (congrArg Value.bool ?_) ?_; (focus ((simp only [E.b0, E.b1, E.b2, E.b3, E.b4, E.b5, E.b6, E.b7, E.b8, E.b9, E.b10, E.b11, E.b12, E.b13, E.b14, E.b15, E.b16, E.b17, E.b18, E.b19, E.b20]; omega)))))
              all_goals (first | (refine E.OW.off rfl rfl rfl ?_) | (refine E.OW.pure rfl rfl rfl (E.PV.fieldAddr fa30_0 rfl rfl) ?_))
              all_goals (first | (refine E.OW.off rfl rfl rfl ?_) | (refine E.OW.pure rfl rfl rfl (E.PV.load (i := 0) na3 rfl rfl rfl rfl) ?_))
              all_goals (first | (refine E.OW.off rfl rfl rfl ?_) | (refine E.OW.pure rfl rfl rfl (E.PV.fieldAddr fa30_1 rfl rfl) ?_))
              all_goals (first | (refine E.OW.off rfl rfl rfl ?_) | (refine E.OW.pure rfl rfl rfl (E.PV.load (i := 0) na3 rfl rfl rfl rfl) ?_))
              all_goals (first | (refine E.OW.off rfl rfl rfl ?_) | (refine E.OW.pure rfl rfl rfl (E.PV.eql rfl rfl rfl) ?_))
              all_goals (first | (refine E.OW.pure rfl rfl rfl (E.PV.pick_t rfl rfl rfl) ?_) | (refine E.OW.pure rfl rfl rfl (E.PV.pick_f rfl rfl rfl) ?_))
              all_goals (
                refine E.OW.nil ?_
                refine E.then_n ?_
                refine E.CW.cond rfl (fun hc => ?_) (fun hc => ?_)
                · simp only [E.b0, E.b1, E.b2, E.b3, E.b4, E.b5, E.b6, E.b7, E.b8, E.b9, E.b10, E.b11, E.b12, E.b13, E.b14, E.b15, E.b16, E.b17, E.b18, E.b19, E.b20, reduceCtorEq] at hc
                  all_goals (
                    refine E.CW.seq ?_
                    refine E.CW.region ?_
                    refine E.OW.pure rfl rfl rfl (E.PV.move rfl rfl) ?_
                    refine E.OW.pure rfl rfl rfl (E.PV.move rfl rfl) ?_
                    all_goals (refine E.OW.put 83 (.bool true) (v := .bool true) rfl rfl ?_)
                    all_goals (refine E.OW.pure rfl rfl rfl (E.PV.move rfl rfl) ?_)
                    all_goals (refine E.OW.pure rfl rfl rfl (E.PV.move rfl rfl) ?_)
                    all_goals (refine E.OW.pure rfl rfl rfl (E.PV.eql rfl rfl rfl) ?_)
                    all_goals (refine E.OW.pure rfl rfl rfl (E.PV.pick_t rfl rfl rfl) ?_)
                    all_goals (refine E.OW.pure rfl rfl rfl (E.PV.move rfl rfl) ?_)
                    all_goals (refine E.OW.put 88 (.bool true) rfl (congrArg Value.bool ?_) ?_; (focus ((simp only [E.b0, E.b1, E.b2, E.b3, E.b4, E.b5, E.b6, E.b7, E.b8, E.b9, E.b10, E.b11, E.b12, E.b13, E.b14, E.b15, E.b16, E.b17, E.b18, E.b19, E.b20]; omega))))
                    all_goals (refine E.OW.pure rfl rfl rfl (E.PV.move rfl rfl) ?_)
                    all_goals (refine E.OW.pure rfl rfl rfl (E.PV.move rfl rfl) ?_)
                    all_goals (refine E.OW.pure rfl rfl rfl (E.PV.eql rfl rfl rfl) ?_)
                    all_goals (refine E.OW.pure rfl rfl rfl (E.PV.pick_t rfl rfl rfl) ?_)
                    all_goals (refine E.OW.pure rfl rfl rfl (E.PV.assign rfl rfl) ?_)
                    all_goals (
                      refine E.OW.nil ?_
                      refine E.then_n ?_
                      refine E.CW.ret ?_
                      refine E.then_ret ?_
                      refine E.KR.one [] Try.results10 rfl rfl ?_
                      exact ⟨by first | rfl | (refine congrArg Value.bool (decide_eq_true ?_); omega) | (simp_all; done), rfl⟩))
                · first | ((cases hc; done)) | (simp only [E.b0, E.b1, E.b2, E.b3, E.b4, E.b5, E.b6, E.b7, E.b8, E.b9, E.b10, E.b11, E.b12, E.b13, E.b14, E.b15, E.b16, E.b17, E.b18, E.b19, E.b20, reduceCtorEq] at hc)
                  all_goals (
                    refine E.CW.skip ?_
                    refine E.then_n ?_
                    refine E.CW.seq ?_
                    refine E.CW.region ?_
                    refine E.OW.pure rfl rfl rfl (E.PV.move rfl rfl) ?_
                    refine E.OW.pure rfl rfl rfl (E.PV.move rfl rfl) ?_
                    all_goals (refine E.OW.put 94 (.bool true) (v := .bool true) rfl rfl ?_)
                    all_goals (refine E.OW.pure rfl rfl rfl (E.PV.move rfl rfl) ?_)
                    all_goals (refine E.OW.pure rfl rfl rfl (E.PV.eql rfl rfl rfl) ?_)
                    all_goals (refine E.OW.pure rfl rfl rfl (E.PV.pick_t rfl rfl rfl) ?_)
                    all_goals (refine E.OW.pure rfl rfl rfl (E.PV.move rfl rfl) ?_)
                    all_goals (refine E.OW.put 98 (.bool true) rfl (congrArg Value.bool ?_) ?_; (focus ((simp only [E.b0, E.b1, E.b2, E.b3, E.b4, E.b5, E.b6, E.b7, E.b8, E.b9, E.b10, E.b11, E.b12, E.b13, E.b14, E.b15, E.b16, E.b17, E.b18, E.b19, E.b20]; omega))))
                    all_goals (refine E.OW.pure rfl rfl rfl (E.PV.move rfl rfl) ?_)
                    all_goals (refine E.OW.pure rfl rfl rfl (E.PV.move rfl rfl) ?_)
                    all_goals (refine E.OW.pure rfl rfl rfl (E.PV.sub_i64 rfl rfl rfl ?_) ?_; (focus (omega)))
                    all_goals (refine E.OW.pure rfl rfl rfl (E.PV.geq rfl rfl rfl) ?_)
                    all_goals (refine E.OW.pure rfl rfl rfl (E.PV.pick_t rfl rfl rfl) ?_)
                    all_goals (refine E.OW.pure rfl rfl rfl (E.PV.move rfl rfl) ?_)
                    all_goals (refine E.OW.put 104 (.bool true) rfl (congrArg Value.bool ?_) ?_; (focus ((simp only [E.b0, E.b1, E.b2, E.b3, E.b4, E.b5, E.b6, E.b7, E.b8, E.b9, E.b10, E.b11, E.b12, E.b13, E.b14, E.b15, E.b16, E.b17, E.b18, E.b19, E.b20]; omega))))
                    all_goals (refine E.OW.pure rfl rfl rfl (E.PV.move rfl rfl) ?_)
                    all_goals (refine E.OW.pure rfl rfl rfl (E.PV.move rfl rfl) ?_)
                    all_goals (refine E.OW.pure rfl rfl rfl (E.PV.fieldAddr fa28_1 rfl rfl) ?_)
                    all_goals (refine E.OW.pure rfl rfl rfl (E.PV.load (i := 1) na22 rfl rfl rfl rfl) ?_)
                    all_goals (refine E.OW.pure rfl rfl rfl (E.PV.len Try.underlying22 rfl rfl) ?_)
                    all_goals (refine E.OW.pure rfl rfl rfl (E.PV.add_i64 rfl rfl rfl ?_) ?_; (focus (omega)))
                    all_goals (refine E.OW.pure rfl rfl rfl (E.PV.sub_i64 rfl rfl rfl ?_) ?_; (focus (omega)))
                    all_goals (refine E.OW.pure rfl rfl rfl (E.PV.leq rfl rfl rfl) ?_)
                    all_goals (refine E.OW.pure rfl rfl rfl (E.PV.pick_t rfl rfl rfl) ?_)
                    all_goals (refine E.OW.pure rfl rfl rfl (E.PV.assign rfl rfl) ?_)
                    all_goals (
                      refine E.OW.nil ?_
                      refine E.then_n ?_
                      refine E.CW.ret ?_
                      refine E.KR.one [] Try.results10 rfl rfl ?_
                      exact ⟨by first | rfl | (refine congrArg Value.bool (decide_eq_true ?_); omega) | (simp_all; done), rfl⟩)))))))
end Go.Proofs.Ytflkbabhbnmajaa
