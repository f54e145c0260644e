/- Part 4 of the texts behind the laws RouteAlone, RouteFar, RouteFirst, RouteLongest, RouteShortest, RouteSpreads: the logic, plain laws and walks that they need, for any input that these speak of. -/
import Derived.Test.YtflkbabhbnmajaaK3
/- Walks (printed by gen.py). -/
namespace Go.Proofs.Ytflkbabhbnmajaa
open Go Go.RowKit
set_option linter.unusedSimpArgs false
set_option linter.unusedVariables false

set_option maxRecDepth 100000 in
theorem see_ok (y : E.Pl) (D : Bf.DD) (Bx B h p k : Nat) (q : List (Nat × Nat)) (m : Int) (S : Nat → Prop) (w0 : World) (hS : (E.HP.bag [E.HP.que B q h, E.HP.dist y D]).sem S w0) (hb : ∀ k, S k → k < w0.heap.size) (hr : y.rd0 w0 (E.Fm w0 S)) (hbx : E.Rd w0 (E.Fm w0 S) (some ⟨Bx, 0, none⟩) [y.v]) (hk : k < y.x.K) (hp : p < y.x.n) (hq : q.length ≤ 2000) :
    Calls Try.prog 128 #[.int .i64 (p : Int), .int .i64 (k : Int), .int .i64 m, .pointer (some ⟨Bx, 0, none⟩), .pointer (some ⟨B, 0, none⟩)] w0 (E.Post w0 (E.Fm w0 S) fun v Hn => Hn = [E.HP.que B (Bf.seeQ y.x D q p k) h, E.HP.dist y (Bf.seeD D p k m)]) := by
  refine E.calls_of (vs := [.int .i64 (p : Int), .int .i64 (k : Int), .int .i64 m, .pointer (some ⟨Bx, 0, none⟩), .pointer (some ⟨B, 0, none⟩)]) (H := [E.HP.bag [E.HP.que B q h, E.HP.dist y D]]) Try.func128 Try.ntmps128 rfl rfl (E.HA.startM hS hb) ?_
  refine E.CW.seq ?_
  refine E.CW.open 0 rfl ?_
  refine E.CW.region ?_
  refine E.OW.pure rfl rfl rfl (E.PV.load_at (E.rdc hbx) na87 rfl rfl rfl) ?_
  refine E.OW.pure rfl rfl rfl (E.PV.nilCheck rfl rfl) ?_
  refine E.OW.pure rfl rfl rfl (E.PV.fieldAddr fa93_3 rfl rfl) ?_
  refine E.OW.pure rfl rfl rfl (E.PV.load_at (E.p_b (E.sr0 hr)) na91 rfl rfl rfl) ?_
  refine E.OW.pure rfl rfl rfl (E.PV.move rfl rfl) ?_
  refine E.OW.pure rfl rfl rfl (E.PV.indexAddr1 (E.p_d (E.sr0 hr)) Try.underlying91 in31 rfl rfl rfl rfl ?_ ?_) ?_; (focus (first | (simp; done) | (simp; omega))); (focus (omega))
  refine E.OW.pure rfl rfl rfl (E.PV.load_sc (E.p_d (E.sr0 hr)) na31 rfl rfl ?_) ?_; (focus (omega))
  refine E.OW.pure rfl rfl rfl (E.PV.move rfl rfl) ?_
  refine E.OW.pure rfl rfl rfl (E.PV.indexAddr1 (E.p_dr (E.srdc (i := 1) rfl) ?_) Try.underlying31 in3 rfl rfl rfl rfl ?_ ?_) ?_; (focus (omega)); (focus (first | (simp; done) | (simp; omega))); (focus (omega))
  refine E.OW.pure rfl rfl rfl (E.PV.load_ii (E.p_dr (E.srdc (i := 1) rfl) ?_) na3 rfl rfl ?_) ?_; (focus (omega)); (focus (omega))
  refine E.OW.pure rfl rfl rfl (E.PV.lss rfl rfl rfl) ?_
  refine E.OW.nil ?_
  refine E.then_n ?_
  refine E.CW.cond rfl (fun hc => ?_) (fun hc => ?_)
  · simp only [E.b0, E.b1, E.b2, E.b3, E.b4, E.b5, E.b6, E.b7, E.b8, E.b9, E.b10, E.b11, E.b12, E.b13, E.b14, E.b15, E.b16, E.b17, E.b18, E.b19, E.b20, reduceCtorEq] at hc
    all_goals (
      refine E.CW.seq ?_
      refine E.CW.region ?_
      refine E.OW.pure rfl rfl rfl (E.PV.load_at (E.rdc hbx) na87 rfl rfl rfl) ?_
      refine E.OW.pure rfl rfl rfl (E.PV.nilCheck rfl rfl) ?_
      refine E.OW.pure rfl rfl rfl (E.PV.fieldAddr fa93_3 rfl rfl) ?_
      refine E.OW.pure rfl rfl rfl (E.PV.load_at (E.p_b (E.sr0 hr)) na91 rfl rfl rfl) ?_
      refine E.OW.pure rfl rfl rfl (E.PV.move rfl rfl) ?_
      refine E.OW.pure rfl rfl rfl (E.PV.indexAddr1 (E.p_d (E.sr0 hr)) Try.underlying91 in31 rfl rfl rfl rfl ?_ ?_) ?_; (focus (first | (simp; done) | (simp; omega))); (focus (omega))
      refine E.OW.pure rfl rfl rfl (E.PV.load_sc (E.p_d (E.sr0 hr)) na31 rfl rfl ?_) ?_; (focus (omega))
      refine E.OW.pure rfl rfl rfl (E.PV.move rfl rfl) ?_
      refine E.OW.pure rfl rfl rfl (E.PV.move rfl rfl) ?_
      refine E.OW.pure rfl rfl rfl (E.PV.indexAddr1 (E.p_dr (E.srdc (i := 1) rfl) ?_) Try.underlying31 in3 rfl rfl rfl rfl ?_ ?_) ?_; (focus (omega)); (focus (first | (simp; done) | (simp; omega))); (focus (omega))
      refine E.OW.store_rows (i := 1) in3.size rfl rfl rfl rfl rfl rfl ?_ ?_ ?_; (focus (omega)); (focus (omega))
      refine E.OW.nil ?_
      refine E.then_n ?_
      refine E.CW.seq ?_
      refine E.CW.conv (E.cv_chunk 0 (E.HP.dist y (Bf.upd D k p m)) rfl (E.dist_upd y D k p m)) ?_
      refine E.CW.sels [1, 0] rfl ?_
      refine E.CW.region ?_
      refine E.OW.pure rfl rfl rfl (E.PV.load_at (E.rdc hbx) na87 rfl rfl rfl) ?_
      refine E.OW.pure rfl rfl rfl (E.PV.nilCheck rfl rfl) ?_
      refine E.OW.pure rfl rfl rfl (E.PV.fieldAddr fa93_2 rfl rfl) ?_
      refine E.OW.pure rfl rfl rfl (E.PV.load_at (E.p_b (E.sr0 hr)) na90 rfl rfl rfl) ?_
      refine E.OW.pure rfl rfl rfl (E.PV.move rfl rfl) ?_
      refine E.OW.pure rfl rfl rfl (E.PV.indexAddr1 (E.p_a (E.sr0 hr)) Try.underlying90 in89 rfl rfl rfl rfl ?_ ?_) ?_; (focus (first | (simp; done) | (simp; omega))); (focus (omega))
      refine E.OW.pure rfl rfl rfl (E.PV.load_sc (E.p_a (E.sr0 hr)) na89 rfl rfl ?_) ?_; (focus (omega))
      refine E.OW.pure rfl rfl rfl (E.PV.move rfl rfl) ?_
      refine E.OW.pure rfl rfl rfl (E.PV.indexAddr1 (E.p_ar (E.sr0 hr) ?_) Try.underlying89 in4 rfl rfl rfl rfl ?_ ?_) ?_; (focus (omega)); (focus (first | (simp; done) | (simp; omega))); (focus (omega))
      refine E.OW.pure rfl rfl rfl (E.PV.load_bl (E.p_ar (E.sr0 hr) ?_) na4 rfl rfl ?_) ?_; (focus (omega)); (focus (omega))
      refine E.OW.nil ?_
      refine E.then_n ?_
      refine E.CW.cond rfl (fun hc => ?_) (fun hc => ?_)
      · skip
        all_goals (
          refine E.CW.region ?_
          refine E.OW.pure rfl rfl rfl (E.PV.move rfl rfl) ?_
          refine E.OW.pure rfl rfl rfl (E.PV.move rfl rfl) ?_
          refine E.OW.pure rfl rfl rfl (E.PV.build (ps := [(0, .tmp 39), (1, .tmp 40)]) rfl rfl (fun w => bld154_0_1 _ _ w)) ?_
          (refine E.OW.callM nm129 rfl rfl rfl rfl rfl rfl _ 0 rfl (fun w S hw hs hb hc => push_ok _ _ _ _ _ S w hs (fun k hk => (hb k hk).1) ?_) ?_; (focus (assumption)); rintro _ _ rfl)
          refine E.OW.nil ?_
          refine (E.KR.zero [0, 0] Try.results128 rfl ?_).1
          by_cases hd : D k p < 0
          · by_cases ha : y.x.al k p = true
            · have e := Bf.see_on (x := y.x) (q := q) (m := m) hd ha
              rw [e.1, e.2]; all_goals first | rfl | (exfalso; simp_all; done) | (exfalso; omega)
            · have e := Bf.see_off (x := y.x) (q := q) (m := m) hd (Bool.eq_false_iff.2 ha)
              rw [e.1, e.2]; all_goals first | rfl | (exfalso; simp_all; done) | (exfalso; omega)
          · have e := Bf.see_no (x := y.x) (q := q) (m := m) hd
            rw [e.1, e.2]; all_goals first | rfl | (exfalso; omega))
      · skip
        all_goals (
          refine E.CW.skip ?_
          refine (E.KR.zero [0, 0] Try.results128 rfl ?_).1
          by_cases hd : D k p < 0
          · by_cases ha : y.x.al k p = true
            · have e := Bf.see_on (x := y.x) (q := q) (m := m) hd ha
              rw [e.1, e.2]; all_goals first | rfl | (exfalso; simp_all; done) | (exfalso; omega)
            · have e := Bf.see_off (x := y.x) (q := q) (m := m) hd (Bool.eq_false_iff.2 ha)
              rw [e.1, e.2]; all_goals first | rfl | (exfalso; simp_all; done) | (exfalso; omega)
          · have e := Bf.see_no (x := y.x) (q := q) (m := m) hd
            rw [e.1, e.2]; all_goals first | rfl | (exfalso; omega)))
  · simp only [E.b0, E.b1, E.b2, E.b3, E.b4, E.b5, E.b6, E.b7, E.b8, E.b9, E.b10, E.b11, E.b12, E.b13, E.b14, E.b15, E.b16, E.b17, E.b18, E.b19, E.b20, reduceCtorEq] at hc
    all_goals (
      refine E.CW.skip ?_
      refine (E.KR.zero [0, 0] Try.results128 rfl ?_).1
      by_cases hd : D k p < 0
      · by_cases ha : y.x.al k p = true
        · have e := Bf.see_on (x := y.x) (q := q) (m := m) hd ha
          rw [e.1, e.2]; all_goals first | rfl | (exfalso; simp_all; done) | (exfalso; omega)
        · have e := Bf.see_off (x := y.x) (q := q) (m := m) hd (Bool.eq_false_iff.2 ha)
          rw [e.1, e.2]; all_goals first | rfl | (exfalso; simp_all; done) | (exfalso; omega)
      · have e := Bf.see_no (x := y.x) (q := q) (m := m) hd
        rw [e.1, e.2]; all_goals first | rfl | (exfalso; omega))

set_option maxRecDepth 100000 in
theorem fill_ok (y : E.Pl) (S : Nat → Prop) (w0 : World) (hS : (E.HP.dist y fun _ _ => -1).sem S w0) (hb : ∀ k, S k → k < w0.heap.size) (hr : y.rd0 w0 (E.Fm w0 S)) (hok : y.x.ok) (hn : y.x.n ≤ 64) (hK : y.x.K ≤ 16) (hnl : ∀ p, (y.x.nr p).length ≤ 5) :
    Calls Try.prog 103 #[y.v, .int .i64 (y.x.goal : Int)] w0 (E.Post w0 (E.Fm w0 S) fun v Hn => ∃ D : Bf.DD, Hn = [E.HP.dist y D] ∧ ∀ k p, k < y.x.K → p < y.x.n → y.x.cell p = true → Bf.Ar y.x k p (D k p)) := by
  obtain ⟨M, hM⟩ : ∃ M, y.x.n * y.x.K = M := ⟨_, rfl⟩
  have hM2 : M ≤ 64 * 16 := hM ▸ Nat.mul_le_mul hn hK
  have hK0 := hok.K0
  refine E.calls_of (vs := [y.v, .int .i64 (y.x.goal : Int)]) (H := [E.HP.dist y fun _ _ => -1]) Try.func103 Try.ntmps103 rfl rfl (E.HA.startM hS hb) ?_
  refine E.CW.seq ?_
  refine E.CW.region ?_
  refine E.OW.box rfl rfl rfl rfl rfl rfl (fun B1 => ?_)
  refine E.OW.nil ?_
  refine E.then_n ?_
  refine E.CW.seq ?_
  refine E.CW.region ?_
  refine E.OW.alloc (in151.zr) rfl rfl rfl rfl rfl (fun B2 => ?_)
  refine E.OW.nil ?_
  refine E.then_n ?_
  refine E.CW.seq ?_
  refine E.CW.nilrow 154 2 ?_
  refine E.CW.conv (E.cv_quein (q := []) (h := 0) 1 0 rfl rfl rfl rfl) ?_
  refine E.CW.region ?_
  refine E.OW.pure rfl rfl rfl (E.PV.makeFunc (f := .func 128) (fs := []) (cs := [.tmp 2, .tmp 4]) rfl rfl rfl) ?_
  refine E.OW.pure rfl rfl rfl (E.PV.assign rfl rfl) ?_
  refine E.OW.nil ?_
  refine E.then_n ?_
  refine E.CW.seq ?_
  refine E.CW.seq ?_
  refine E.CW.region ?_
  refine E.OW.pure rfl rfl rfl (E.PV.load (i := 1) na87 rfl rfl rfl rfl) ?_
  refine E.OW.pure rfl rfl rfl (E.PV.nilCheck rfl rfl) ?_
  refine E.OW.pure rfl rfl rfl (E.PV.fieldAddr fa93_0 rfl rfl) ?_
  refine E.OW.pure rfl rfl rfl (E.PV.load_at (E.p_b (E.sr0 hr)) na3 rfl rfl rfl) ?_
  refine E.OW.pure rfl rfl rfl (E.PV.move rfl rfl) ?_
  refine E.OW.nil ?_
  refine E.then_n ?_
  refine E.CW.block ?_
  refine E.CW.sels [0, 1, 0] rfl ?_
  refine E.CW.loopk [1, 2, 4, 5, 16] 2 rfl rfl (fun mm mods Hm => ∃ j : Nat, ∃ D : Bf.DD, ∃ q : List (Nat × Nat), mm = y.x.K - j ∧ mods = [(17, .int .i64 j)] ∧ Hm = [E.HP.que B2 q 0, E.HP.dist y D] ∧ (j ≤ y.x.K ∧ Bf.Start y.x D q j)) (y.x.K) ?_ ?_
  · exact ⟨[(17, _)], (by repeat (first | exact E.cov_nil | refine ⟨rfl, ?_⟩)), 0, _, _, rfl, rfl, rfl, by omega, Bf.Start.zero y.x fun _ _ => rfl⟩
  · rintro _ _ _ ⟨j, D, q, rfl, rfl, rfl, hj, hI⟩
    refine E.CW.seq ?_
    refine E.CW.region ?_
    refine E.OW.pure rfl rfl rfl (E.PV.lss rfl rfl rfl) ?_
    refine E.OW.nil ?_
    refine E.then_n ?_
    refine E.CW.seq ?_
    refine E.CW.cond rfl (fun hc => ?_) (fun hc => ?_)
    · simp only [E.b0, E.b1, E.b2, E.b3, E.b4, E.b5, E.b6, E.b7, E.b8, E.b9, E.b10, E.b11, E.b12, E.b13, E.b14, E.b15, E.b16, E.b17, E.b18, E.b19, E.b20, reduceCtorEq] at hc
      all_goals (
        refine E.CW.skip ?_
        refine E.then_n ?_
        refine E.CW.seq ?_
        refine E.CW.block ?_
        refine E.CW.seq ?_
        refine E.CW.region ?_
        refine E.OW.pure rfl rfl rfl (E.PV.move rfl rfl) ?_
        refine E.OW.pure rfl rfl rfl (E.PV.assign rfl rfl) ?_
        refine E.OW.nil ?_
        refine E.then_n ?_
        have hql := Bf.len_le hI.b
        refine E.CW.gather [0, 0, 0] 2 rfl rfl ?_
        refine E.CW.region ?_
        refine E.OW.pure rfl rfl rfl (E.PV.move rfl rfl) ?_
        refine E.OW.pure rfl rfl rfl (E.PV.move rfl rfl) ?_
        refine E.OW.pure rfl rfl rfl (E.PV.move rfl rfl) ?_
        refine E.OW.callcM nm128 rfl rfl rfl rfl rfl rfl _ 0 rfl (fun w S2 hw hs hb2 hc => see_ok y D B1 B2 0 y.x.goal j q 0 S2 w hs (fun k hk => (hb2 k hk).1) (hw.rd0M hr hb2) (E.blk_in hc (i := 0) rfl) (by omega) hok.glt (by omega)) ?_; rintro _ _ rfl
        refine E.OW.nil ?_
        refine E.blk_n ?_
        refine E.then_n ?_
        refine E.CW.region ?_
        refine E.OW.pure rfl rfl rfl (E.PV.add_i64 rfl rfl rfl ?_) ?_; (focus (omega))
        refine E.OW.pure rfl rfl rfl (E.PV.move rfl rfl) ?_
        refine E.OW.nil ?_
        refine E.then_nf ?_
        refine ⟨_, [(17, _)], [0, 0, 0], [_, _], ?_, by repeat (first | exact E.cov_nil | refine ⟨rfl, ?_⟩), rfl, j + 1, _, _, rfl, rfl, rfl, by omega, hI.see hok (by omega)⟩
        omega)
    · simp only [E.b0, E.b1, E.b2, E.b3, E.b4, E.b5, E.b6, E.b7, E.b8, E.b9, E.b10, E.b11, E.b12, E.b13, E.b14, E.b15, E.b16, E.b17, E.b18, E.b19, E.b20, reduceCtorEq] at hc
      all_goals (
        refine E.CW.exit ?_
        refine E.then_x ?_
        refine E.then_x ?_
        refine E.blk_eq ?_
        refine E.then_n ?_
        refine E.CW.block ?_
        refine E.CW.loopk [2, 4, 5] 2 rfl rfl (fun mm mods Hm => ∃ h : Nat, ∃ D : Bf.DD, ∃ q : List (Nat × Nat), mm = M - h ∧ mods = [] ∧ Hm = [E.HP.que B2 q h, E.HP.dist y D] ∧ (h ≤ q.length ∧ Bf.Base y.x D q h ∧ ∀ k, k < y.x.K → D k y.x.goal = 0)) (M) ?_ ?_
        · exact ⟨[], (by repeat (first | exact E.cov_nil | refine ⟨rfl, ?_⟩)), 0, _, _, rfl, rfl, rfl, by omega, hI.b, fun k hk => hI.g k (by omega)⟩
        · rintro _ _ _ ⟨h, D, q, rfl, rfl, rfl, hhq, hB, hg⟩
          have hql := Bf.len_le hB
          rw [hM] at hql
          refine E.CW.block ?_
          refine E.CW.seq ?_
          refine E.CW.region ?_
          (refine E.OW.callM nm130 rfl rfl rfl rfl rfl rfl _ 0 rfl (fun w S hw hs hb hc => pop_ok _ _ _ S w hs (fun k hk => (hb k hk).1) ?_) ?_; (focus (omega)); rintro _ _ ⟨bP, xa, xb, hP, rfl, rfl, hpop⟩)
          refine E.OW.pure rfl rfl rfl (E.PV.move rfl rfl) ?_
          refine E.OW.pure rfl rfl rfl (E.PV.extract rfl rfl rfl) ?_
          refine E.OW.pure rfl rfl rfl (E.PV.extract rfl rfl rfl) ?_
          refine E.OW.alloc (in154.zr) rfl rfl rfl rfl rfl (fun B3 => ?_)
          refine E.OW.store (i := 0) in154.size rfl rfl rfl rfl rfl rfl rfl rfl rfl ?_
          refine E.OW.pure rfl rfl rfl (E.PV.assign rfl rfl) ?_
          refine E.OW.nil ?_
          refine E.then_n ?_
          refine E.CW.seq ?_
          refine E.CW.seq ?_
          refine E.CW.region ?_
          refine E.OW.pure rfl rfl rfl (E.PV.move rfl rfl) ?_
          refine E.OW.pure rfl rfl rfl (E.PV.not rfl rfl) ?_
          refine E.OW.nil ?_
          refine E.then_n ?_
          refine E.CW.cond rfl (fun hc => ?_) (fun hc => ?_)
          · simp only [E.b0, E.b1, E.b2, E.b3, E.b4, E.b5, E.b6, E.b7, E.b8, E.b9, E.b10, E.b11, E.b12, E.b13, E.b14, E.b15, E.b16, E.b17, E.b18, E.b19, E.b20, reduceCtorEq] at hc
            all_goals (
              refine E.CW.ret ?_
              refine E.then_ret ?_
              refine E.blk_ret ?_
              refine E.then_ret ?_
              refine E.blk_ret ?_
              refine (E.KR.zero [2] Try.results103 rfl ?_).2
              rcases hpop with ⟨hb1, _, _, _, _⟩ | ⟨_, hh, _⟩
              · exfalso; simp_all
              obtain rfl : h = q.length := by omega
              exact ⟨_, rfl, fun k p hk hp hc => hB.ar hok hg hk hp hc⟩)
          · simp only [E.b0, E.b1, E.b2, E.b3, E.b4, E.b5, E.b6, E.b7, E.b8, E.b9, E.b10, E.b11, E.b12, E.b13, E.b14, E.b15, E.b16, E.b17, E.b18, E.b19, E.b20, reduceCtorEq] at hc
            all_goals (
              refine E.CW.skip ?_
              refine E.then_n ?_
              refine E.CW.seq ?_
              rcases hpop with ⟨_, hhl, rfl, rfl, rfl⟩ | ⟨hb1, _, _⟩
              rotate_left
              · exfalso; simp_all
              obtain ⟨s, hs⟩ : ∃ s, Bf.at_ q h = s := ⟨_, rfl⟩
              obtain ⟨hs1, hs2, hs3, hs4⟩ := hB.mem _ (Bf.at_mem hhl)
              have hsd := hB.bd _ _ hs2 hs1
              rw [hs] at hs1 hs2 hs3 hs4 hsd ⊢
              refine E.CW.draw mixed (by kernel_rfl) ?_
              refine E.QW.pure rfl rfl rfl (E.PV.fieldAddr fa154_1 rfl rfl) ?_
              refine E.QW.pure rfl rfl rfl (E.PV.load (i := 0) na3 rfl rfl rfl rfl) ?_
              refine E.QW.pure rfl rfl rfl (E.PV.load (i := 3) na87 rfl rfl rfl rfl) ?_
              refine E.QW.pure rfl rfl rfl (E.PV.nilCheck rfl rfl) ?_
              refine E.QW.pure rfl rfl rfl (E.PV.fieldAddr fa93_0 rfl rfl) ?_
              refine E.QW.pure rfl rfl rfl (E.PV.load_at (E.p_b (E.sr0 hr)) na3 rfl rfl rfl) ?_
              refine E.QW.pure rfl rfl rfl (E.PV.add_i64 rfl rfl rfl ?_) ?_; (focus (omega))
              refine E.QW.pure rfl rfl rfl (E.PV.sub_i64 rfl rfl rfl ?_) ?_; (focus (omega))
              refine E.QW.pure rfl rfl rfl (E.PV.load (i := 3) na87 rfl rfl rfl rfl) ?_
              refine E.QW.pure rfl rfl rfl (E.PV.nilCheck rfl rfl) ?_
              refine E.QW.pure rfl rfl rfl (E.PV.fieldAddr fa93_0 rfl rfl) ?_
              refine E.QW.pure rfl rfl rfl (E.PV.load_at (E.p_b (E.sr0 hr)) na3 rfl rfl rfl) ?_
              refine E.QW.pure rfl rfl rfl (E.PV.rem_i64 rfl rfl rfl ?_ ?_) ?_; (focus (omega)); (focus (omega))
              refine E.QW.pure rfl rfl rfl (E.PV.assign rfl rfl) ?_
              refine E.QW.nil ?_
              refine E.then_n ?_
              refine E.CW.seq ?_
              refine E.CW.put 9 (.int .i64 ((Bf.bef y.x s.2 : Nat) : Int)) rfl (congrArg (Value.int .i64) (Bf.bef_int hok s.2)) ?_
              refine E.CW.draw mixed (by kernel_rfl) ?_
              refine E.QW.pure rfl rfl rfl (E.PV.load (i := 3) na87 rfl rfl rfl rfl) ?_
              refine E.QW.pure rfl rfl rfl (E.PV.nilCheck rfl rfl) ?_
              refine E.QW.pure rfl rfl rfl (E.PV.fieldAddr fa93_4 rfl rfl) ?_
              refine E.QW.pure rfl rfl rfl (E.PV.load_at (E.p_b (E.sr0 hr)) na91 rfl rfl rfl) ?_
              refine E.QW.pure rfl rfl rfl (E.PV.fieldAddr fa154_0 rfl rfl) ?_
              refine E.QW.pure rfl rfl rfl (E.PV.load (i := 0) na3 rfl rfl rfl rfl) ?_
              refine E.QW.pure rfl rfl rfl (E.PV.indexAddr1 (E.p_n (E.sr0 hr)) Try.underlying91 in31 rfl rfl rfl rfl ?_ ?_) ?_; (focus (first | (simp; done) | (simp; omega))); (focus (omega))
              refine E.QW.pure rfl rfl rfl (E.PV.load_sn (E.p_n (E.sr0 hr)) na31 rfl rfl ?_) ?_; (focus (omega))
              refine E.QW.pure rfl rfl rfl (E.PV.len Try.underlying31 rfl rfl) ?_
              refine E.QW.pure rfl rfl rfl (E.PV.move rfl rfl) ?_
              refine E.QW.nil ?_
              refine E.then_n ?_
              refine E.CW.block ?_
              refine E.CW.sels [1, 1, 0, 0] rfl ?_
              refine E.CW.loopk [2, 4, 5, 7, 9, 51, 52] 2 rfl rfl (fun mm mods Hm => ∃ i : Nat, ∃ D : Bf.DD, ∃ q : List (Nat × Nat), mm = (y.x.nr s.1).length - i ∧ mods = [(53, .int .i64 i)] ∧ Hm = [E.HP.que B2 q (h + 1), E.HP.dist y D] ∧ (i ≤ (y.x.nr s.1).length ∧ Bf.at_ q h = s ∧ Bf.Part y.x D q h i)) ((y.x.nr s.1).length) ?_ ?_
              · exact ⟨[(53, _)], (by repeat (first | exact E.cov_nil | refine ⟨rfl, ?_⟩)), 0, _, _, rfl, rfl, rfl, by omega, hs, hB.part hhl hg⟩
              · rintro _ _ _ ⟨i, D, q, rfl, rfl, rfl, hi, hat, hP⟩
                have hnl2 := hnl s.1
                have hql2 := Bf.len_le hP.b
                rw [hM] at hql2
                have hsd2 := hP.b.bd _ _ hs2 hs1
                have hsl := (hP.b.mem _ (Bf.at_mem hP.hl)).2.2.2
                rw [hat] at hsl
                refine E.CW.seq ?_
                refine E.CW.region ?_
                refine E.OW.pure rfl rfl rfl (E.PV.lss rfl rfl rfl) ?_
                refine E.OW.nil ?_
                refine E.then_n ?_
                refine E.CW.seq ?_
                refine E.CW.cond rfl (fun hc => ?_) (fun hc => ?_)
                · simp only [E.b0, E.b1, E.b2, E.b3, E.b4, E.b5, E.b6, E.b7, E.b8, E.b9, E.b10, E.b11, E.b12, E.b13, E.b14, E.b15, E.b16, E.b17, E.b18, E.b19, E.b20, reduceCtorEq] at hc
                  all_goals (
                    refine E.CW.skip ?_
                    refine E.then_n ?_
                    refine E.CW.seq ?_
                    refine E.CW.block ?_
                    refine E.CW.seq ?_
                    have hin : (y.x.nr s.1).getD i 0 ∈ y.x.nr s.1 := by rw [List.getD_eq_getElem?_getD, List.getElem?_eq_getElem (show i < (y.x.nr s.1).length by omega), Option.getD_some]; exact List.getElem_mem _
                    have hjn := hok.nrlt _ _ hs1 hin
                    refine E.CW.region ?_
                    refine E.OW.pure rfl rfl rfl (E.PV.indexAddr1 (E.p_nr (E.sr0 hr) ?_) Try.underlying31 in3 rfl rfl rfl rfl ?_ ?_) ?_; (focus (omega)); (focus (first | (simp; done) | (simp; omega))); (focus (omega))
                    refine E.OW.pure rfl rfl rfl (E.PV.load_nn (E.p_nr (E.sr0 hr) ?_) na3 rfl rfl ?_) ?_; (focus (omega)); (focus (omega))
                    refine E.OW.pure rfl rfl rfl (E.PV.assign rfl rfl) ?_
                    refine E.OW.nil ?_
                    refine E.then_n ?_
                    refine E.CW.seq ?_
                    refine E.CW.region ?_
                    refine E.OW.pure rfl rfl rfl (E.PV.load (i := 3) na87 rfl rfl rfl rfl) ?_
                    refine E.OW.pure rfl rfl rfl (E.PV.nilCheck rfl rfl) ?_
                    refine E.OW.pure rfl rfl rfl (E.PV.fieldAddr fa93_1 rfl rfl) ?_
                    refine E.OW.pure rfl rfl rfl (E.PV.load_at (E.p_b (E.sr0 hr)) na89 rfl rfl rfl) ?_
                    refine E.OW.pure rfl rfl rfl (E.PV.move rfl rfl) ?_
                    refine E.OW.pure rfl rfl rfl (E.PV.indexAddr1 (E.p_c (E.sr0 hr)) Try.underlying89 in4 rfl rfl rfl rfl ?_ ?_) ?_; (focus (first | (simp; done) | (simp; omega))); (focus (omega))
                    refine E.OW.pure rfl rfl rfl (E.PV.load_bl (E.p_c (E.sr0 hr)) na4 rfl rfl ?_) ?_; (focus (omega))
                    refine E.OW.nil ?_
                    refine E.then_n ?_
                    refine E.CW.cond rfl (fun hc => ?_) (fun hc => ?_)
                    · skip
                      all_goals (
                        refine E.CW.drawx mixed [2, 2] rfl ?_
                        all_goals (refine E.AW.first 0 rfl (by kernel_rfl) (by kernel_rfl) (by kernel_rfl) rfl rfl rfl (E.PV.move rfl rfl) ?_)
                        all_goals (refine E.AW.first 1 rfl (by kernel_rfl) (by kernel_rfl) (by kernel_rfl) rfl rfl rfl (E.PV.move rfl rfl) ?_)
                        all_goals (refine E.AW.first 2 rfl (by kernel_rfl) (by kernel_rfl) (by kernel_rfl) rfl rfl rfl (E.PV.move rfl rfl) ?_)
                        all_goals (refine E.AW.first 3 rfl (by kernel_rfl) (by kernel_rfl) (by kernel_rfl) rfl rfl rfl (E.PV.load (i := 1) na87 rfl rfl rfl rfl) ?_)
                        all_goals (refine E.AW.first 4 rfl (by kernel_rfl) (by kernel_rfl) (by kernel_rfl) rfl rfl rfl (E.PV.nilCheck rfl rfl) ?_)
                        all_goals (refine E.AW.first 5 rfl (by kernel_rfl) (by kernel_rfl) (by kernel_rfl) rfl rfl rfl (E.PV.fieldAddr fa93_3 rfl rfl) ?_)
                        all_goals (refine E.AW.first 6 rfl (by kernel_rfl) (by kernel_rfl) (by kernel_rfl) rfl rfl rfl (E.PV.load_at (E.p_b (E.sr0 hr)) na91 rfl rfl rfl) ?_)
                        all_goals (refine E.AW.first 7 rfl (by kernel_rfl) (by kernel_rfl) (by kernel_rfl) rfl rfl rfl (E.PV.fieldAddr fa154_1 rfl rfl) ?_)
                        all_goals (refine E.AW.first 8 rfl (by kernel_rfl) (by kernel_rfl) (by kernel_rfl) rfl rfl rfl (E.PV.load (i := 0) na3 rfl rfl rfl rfl) ?_)
                        all_goals (refine E.AW.first 9 rfl (by kernel_rfl) (by kernel_rfl) (by kernel_rfl) rfl rfl rfl (E.PV.indexAddr1 (E.p_d (E.sr0 hr)) Try.underlying91 in31 rfl rfl rfl rfl ?_ ?_) ?_; (focus (first | (simp; done) | (simp; omega))); (focus (omega)))
                        all_goals (refine E.AW.first 10 rfl (by kernel_rfl) (by kernel_rfl) (by kernel_rfl) rfl rfl rfl (E.PV.load_sc (E.p_d (E.sr0 hr)) na31 rfl rfl ?_) ?_; (focus (omega)))
                        all_goals (refine E.AW.first 11 rfl (by kernel_rfl) (by kernel_rfl) (by kernel_rfl) rfl rfl rfl (E.PV.fieldAddr fa154_0 rfl rfl) ?_)
                        all_goals (refine E.AW.first 12 rfl (by kernel_rfl) (by kernel_rfl) (by kernel_rfl) rfl rfl rfl (E.PV.load (i := 0) na3 rfl rfl rfl rfl) ?_)
                        all_goals (refine E.AW.one 13 (by kernel_rfl) rfl ?_)
                        all_goals (refine E.OW.pure rfl rfl rfl (E.PV.indexAddr1 (E.p_dr (E.srdc (i := 1) rfl) ?_) Try.underlying31 in3 rfl rfl rfl rfl ?_ ?_) ?_; (focus (omega)); (focus (first | (simp; done) | (simp; omega))); (focus (omega)))
                        all_goals (first | (refine E.AW.nil [2, 2] rfl ?_) | (refine E.AW.nil [3, 3] rfl ?_) | (refine E.AW.nil [4, 4] rfl ?_) | (refine E.AW.nil [5, 5] rfl ?_) | (refine E.AW.nil [6, 6] rfl ?_) | (refine E.AW.nil [7, 7] rfl ?_) | (refine E.AW.nil [8, 8] rfl ?_) | (refine E.AW.nil [1, 1] rfl ?_) | (refine E.AW.nil [0, 0] rfl ?_))
                        all_goals (refine E.AW.one 14 (by kernel_rfl) rfl ?_)
                        all_goals (refine E.OW.pure rfl rfl rfl (E.PV.load_ii (E.p_dr (E.srdc (i := 1) rfl) ?_) na3 rfl rfl ?_) ?_; (focus (omega)); (focus (omega)))
                        all_goals (first | (refine E.AW.nil [2, 2] rfl ?_) | (refine E.AW.nil [3, 3] rfl ?_) | (refine E.AW.nil [4, 4] rfl ?_) | (refine E.AW.nil [5, 5] rfl ?_) | (refine E.AW.nil [6, 6] rfl ?_) | (refine E.AW.nil [7, 7] rfl ?_) | (refine E.AW.nil [8, 8] rfl ?_) | (refine E.AW.nil [1, 1] rfl ?_) | (refine E.AW.nil [0, 0] rfl ?_))
                        all_goals (refine E.AW.first 15 rfl (by kernel_rfl) (by kernel_rfl) (by kernel_rfl) rfl rfl rfl (E.PV.add_i64 rfl rfl rfl ?_) ?_; (focus (omega)))
                        all_goals (refine E.AW.conv (E.cv_gather [0, 0, 0, 0] 2 rfl rfl) ?_)
                        all_goals (refine E.AW.one 16 (by kernel_rfl) rfl ?_)
                        all_goals (refine E.OW.callcM nm128 rfl rfl rfl rfl rfl rfl _ 0 rfl (fun w S2 hw hs hb2 hc => see_ok y D B1 B2 (h + 1) ((y.x.nr s.1).getD i 0) (Bf.bef y.x s.2) q (D s.2 s.1 + 1) S2 w hs (fun k hk => (hb2 k hk).1) (hw.rd0M hr hb2) (E.blk_in hc (i := 1) rfl) (Bf.bef_lt hok _) (by assumption) (by omega)) ?_; rintro _ _ rfl)
                        all_goals (first | (refine E.AW.nil [2, 2] rfl ?_) | (refine E.AW.nil [3, 3] rfl ?_) | (refine E.AW.nil [4, 4] rfl ?_) | (refine E.AW.nil [5, 5] rfl ?_) | (refine E.AW.nil [6, 6] rfl ?_) | (refine E.AW.nil [7, 7] rfl ?_) | (refine E.AW.nil [8, 8] rfl ?_) | (refine E.AW.nil [1, 1] rfl ?_) | (refine E.AW.nil [0, 0] rfl ?_))
                        all_goals (refine E.AW.done (by kernel_rfl) ?_)
                        all_goals (
                          skip
                          refine E.blk_n ?_
                          refine E.then_n ?_
                          refine E.CW.region ?_
                          refine E.OW.pure rfl rfl rfl (E.PV.add_i64 rfl rfl rfl ?_) ?_; (focus (omega))
                          refine E.OW.pure rfl rfl rfl (E.PV.move rfl rfl) ?_
                          refine E.OW.nil ?_
                          refine E.then_nf ?_
                          refine ⟨_, [(53, _)], [0, 0, 0, 0], [_, _], ?_, by repeat (first | exact E.cov_nil | refine ⟨rfl, ?_⟩), rfl, i + 1, _, _, rfl, rfl, rfl, by omega, (Bf.seeQ_at hP.hl).trans hat, (by have hx := hP.see hok (by rw [hat]; omega) (by rw [hat]; assumption); rw [hat] at hx; exact hx)⟩
                          omega))
                    · skip
                      all_goals (
                        refine E.CW.skip ?_
                        refine E.blk_n ?_
                        refine E.then_n ?_
                        refine E.CW.region ?_
                        refine E.OW.pure rfl rfl rfl (E.PV.add_i64 rfl rfl rfl ?_) ?_; (focus (omega))
                        refine E.OW.pure rfl rfl rfl (E.PV.move rfl rfl) ?_
                        refine E.OW.nil ?_
                        refine E.then_nf ?_
                        refine ⟨_, [(53, _)], [0, 0, 0, 0], [_, _], ?_, by repeat (first | exact E.cov_nil | refine ⟨rfl, ?_⟩), rfl, i + 1, _, _, rfl, rfl, rfl, by omega, hat, hP.skip (by rw [hat]; assumption)⟩
                        omega))
                · simp only [E.b0, E.b1, E.b2, E.b3, E.b4, E.b5, E.b6, E.b7, E.b8, E.b9, E.b10, E.b11, E.b12, E.b13, E.b14, E.b15, E.b16, E.b17, E.b18, E.b19, E.b20, reduceCtorEq] at hc
                  all_goals (
                    refine E.CW.exit ?_
                    refine E.then_x ?_
                    refine E.then_x ?_
                    refine E.blk_eq ?_
                    refine E.blk_n ?_
                    refine E.then_nf ?_
                    refine ⟨_, [], [0, 0, 1], [_, _], ?_, by repeat (first | exact E.cov_nil | refine ⟨rfl, ?_⟩), rfl, h + 1, _, _, rfl, rfl, rfl, hP.hl, hP.done (by rw [hat]; omega), hP.g⟩
                    omega)))
end Go.Proofs.Ytflkbabhbnmajaa

/- Making a plan: rows that are filled, rows of rows that grow. -/
set_option linter.unusedSimpArgs false
set_option linter.unusedVariables false
namespace Go.Proofs.Ytflkbabhbnmajaa
namespace E
open Go Go.RowKit
/-- the first i of what f says, the others not. -/
def ltb (i : Nat) (f : Nat → Bool) (j : Nat) : Bool := decide (j < i) && f j
def inl (l : List Int) (j : Nat) : Bool := decide ((j : Int) ∈ l)
theorem ltb_at {i : Nat} {f : Nat → Bool} : ltb (i + 1) f i = f i := by simp [ltb]
theorem ltb_set {i n : Nat} {f : Nat → Bool} {b : Bool} (h : b = f i) : bls n (up (ltb i f) i b) = bls n (ltb (i + 1) f) := by
  congr 1
  funext j
  unfold up ltb
  by_cases hj : j = i
  · subst hj; simp [h]
  · rw [if_neg hj]; congr 1; rw [decide_eq_decide]; omega
theorem bls_congr {n : Nat} {f g : Nat → Bool} (h : ∀ j, j < n → f j = g j) : bls n f = bls n g := by
  unfold bls; apply List.map_congr_left; intro j hj; rw [h j (List.mem_range.1 hj)]
theorem ltb_zero (n : Nat) (f : Nat → Bool) : bls n (fun _ => false) = bls n (ltb 0 f) := bls_congr fun j _ => by simp [ltb]
theorem ltb_all (n : Nat) (f : Nat → Bool) : bls n (ltb n f) = bls n f := bls_congr fun j hj => by simp [ltb, hj]
theorem inl_zero (n : Nat) : bls n (fun _ => false) = bls n (inl []) := bls_congr fun j _ => by simp [inl]
theorem inl_take {n i : Nat} {l : List Int} (hi : i < l.length) (h0 : 0 ≤ l.getD i 0) : bls n (up (inl (l.take i)) (l.getD i 0).toNat true) = bls n (inl (l.take (i + 1))) := by
  congr 1
  funext j
  unfold up inl
  have e : l.getD i 0 = l[i] := by simp [List.getD, hi]
  rw [List.take_add_one, List.getElem?_eq_getElem hi, Option.toList_some]
  simp only [List.mem_append, List.mem_singleton]
  by_cases hj : j = (l.getD i 0).toNat
  · rw [if_pos hj]
    have : (j : Int) = l[i] := by rw [← e]; omega
    simp [this]
  · rw [if_neg hj, decide_eq_decide]
    have : ¬ (j : Int) = l[i] := by rw [← e]; omega
    simp [this]
theorem up_id {α : Type} {f : Nat → α} {k : Nat} {v : α} (h : f k = v) : up f k v = f := by
  funext j; unfold up; split
  · rename_i e; rw [e, h]
  · rfl
theorem up_self {α : Type} (f : Nat → α) (k : Nat) : up f k (f k) = f := up_id rfl
theorem up_up {α : Type} (f : Nat → α) (k : Nat) (u v : α) : up (up f k u) k v = up f k v := by
  funext j; unfold up; split <;> rfl
theorem iis_set_m1 {i n : Nat} : iis n (up (fun j => if j < i then (-1 : Int) else 0) i (-1)) = iis n (fun j => if j < i + 1 then (-1 : Int) else 0) := by
  congr 1
  funext j
  unfold up
  by_cases hj : j = i
  · subst hj; simp
  · rw [if_neg hj]
    show (if j < i then (-1 : Int) else 0) = if j < i + 1 then (-1 : Int) else 0
    by_cases h : j < i
    · rw [if_pos h, if_pos (by omega)]
    · rw [if_neg h, if_neg (by omega)]
theorem iis_congr {n : Nat} {f g : Nat → Int} (h : ∀ j, j < n → f j = g j) : iis n f = iis n g := by
  unfold iis; apply List.map_congr_left; intro j hj; rw [h j (List.mem_range.1 hj)]
theorem slc2_congr {n : Nat} {A A' : Nat → Option Addr} {l l' c c' : Nat → Nat} (h : ∀ j, j < n → A j = A' j ∧ l j = l' j ∧ c j = c' j) : slc2 n A l c = slc2 n A' l' c' := by
  unfold slc2; apply List.map_congr_left; intro j hj; obtain ⟨h1, h2, h3⟩ := h j (List.mem_range.1 hj); rw [h1, h2, h3]
theorem rows_congr {Et n : Nat} {A A' : Nat → Option Addr} {l l' c c' : Nat → Nat} {xs xs' : Nat → List Value} (h : ∀ j, j < n → A j = A' j ∧ l j = l' j ∧ c j = c' j ∧ xs j = xs' j) : HP.rows Et n A l c xs = HP.rows Et n A' l' c' xs' := by
  unfold HP.rows; congr 1; apply List.map_congr_left; intro j hj; obtain ⟨h1, h2, h3, h4⟩ := h j (List.mem_range.1 hj); rw [h1, h2, h3, h4]
theorem slc2_snocN (m N : Nat) (A : Nat → Option Addr) (u : Nat → Nat) (A' : Option Addr) (c' : Nat) : slc2 m A (fun _ => N) u ++ [.slice A' N c'] = slc2 (m + 1) (up A m A') (fun _ => N) (up u m c') := by
  rw [slc2_snoc, up_id rfl]

/-! ### Some x -/
def HP.ex {α : Type} (f : α → HP) : HP := ⟨fun S w => ∃ x, (f x).sem S w, fun S w w' h ⟨x, hx⟩ => ⟨x, (f x).loc S w w' h hx⟩⟩

section
variable {P : Program} {n : Fr} {w0 : World} {F : Nat → Prop} {K : Kt} {l : Env} {H : List HP} {o : Oper}
theorem CW.exout {c : Code} {α : Type} {f : α → HP} {H1 : List HP} (i : Nat) (hi : sel H i = some (HP.ex f, H1)) (k : ∀ x, CW P n w0 F c K l (f x :: H1)) : CW P n w0 F c K l H := fun a w ha hw => by
  have h1 := hw.sel hi
  obtain ⟨S, ⟨x, g1⟩, g2, g3⟩ := h1.chunks
  exact k x a w ha { h1 with chunks := ⟨S, g1, g2, g3⟩ }
/-! ### A slice that holds something has an address -/
theorem CW.row_some {c : Code} {Et sz m cc : Nat} {A : Option Addr} {xs : List Value} {H1 : List HP} (i : Nat) (hi : sel H i = some (HP.row Et sz A m cc xs, H1)) (hm : 0 < m) (k : ∀ B, A = some ⟨B, 0, none⟩ → CW P n w0 F c K l H) : CW P n w0 F c K l H := fun a w ha hw => by
  rcases (hw.row hi).2 with ⟨_, h0⟩ | ⟨g, cap, cur, hv, _⟩
  · omega
  · injection hv with h1 _ _
    exact k g h1 a w ha hw
theorem PV.indexAddrA {t e : TypeId} {x ix : Operand} {ad : Addr} {m c : Nat} {k : IntKind} {i : Int} {j bytes : Nat} {z : Value} (hT : P.underlying t = some (.slice e)) (hI : In P e z 1 bytes)
    (ho : o.op = .indexAddr t x ix) (hx : ev l x = some (.slice (some ad) m c)) (hix : ev l ix = some (.int k i)) (hj : i = (j : Int)) (hlt : j < m) : PV P n w0 F l H o (eptr (some ad) j) := fun a w ha hw => by
  obtain ⟨q, hq, _, hs, _⟩ := hI.parts
  subst hj
  simp [execOp, ho, ha.ev hx, ha.ev hix, Instr.indexAt, asIntOf, run_underlying hT, sizeOf, typeInfo, hq, hs, hlt, eptr, show (0 : Int) ≤ (j : Int) by omega]

/-! ### Rows of rows -/
theorem cv_nils (Et : Nat) : ∀ m, ∀ w U, Chunks w U H → Chunks w U (HP.rows Et m (fun _ => none) (fun _ => 0) (fun _ => 0) (fun _ => []) :: H) := by
  intro m
  induction m with
  | zero => exact fun w U h => h.bag_nil
  | succ m ih =>
    intro w U h
    have h1 := ih w U h
    have h2 : Chunks w U (HP.row Et 1 none 0 0 [] :: HP.rows Et m (fun _ => none) (fun _ => 0) (fun _ => 0) (fun _ => []) :: H) :=
      ⟨fun _ => False, ⟨fun k => by simp [Value.ownBlock], World.ownsRow_nil w 0 Et 1⟩, fun _ hk => hk.elim, h1.congr fun k => by simp⟩
    have h3 := E.rows_snoc h2
    have e : ∀ {α : Type} (v : α), up (fun _ => v) m v = fun _ => v := fun v => up_id rfl
    rw [e, e, e] at h3
    exact h3
def HP.rowsx (Et m : Nat) (A : Nat → Option Addr) (len c : Nat → Nat) (xs : Nat → List Value) (k : Nat) : HP := HP.bag (((List.range m).erase k).map fun j => HP.row Et 1 (A j) (len j) (c j) (xs j))
theorem cv_rows_out {Et m k : Nat} {A : Nat → Option Addr} {len c : Nat → Nat} {xs : Nat → List Value} {H1 : List HP} (i : Nat) (hi : sel H i = some (HP.rows Et m A len c xs, H1)) (hk : k < m) :
    ∀ w U, Chunks w U H → Chunks w U (HP.row Et 1 (A k) (len k) (c k) (xs k) :: HP.rowsx Et m A len c xs k :: H1) := fun w U h => by
  have hp := (List.perm_cons_erase (List.mem_range.2 hk)).map fun j => HP.row Et 1 (A j) (len j) (c j) (xs j)
  exact Chunks.bag_out (Chunks.bag_perm hp (h.perm (sel_perm hi)))
theorem cv_rows_in {Et m k : Nat} {A : Nat → Option Addr} {len c : Nat → Nat} {xs : Nat → List Value} {H1 H2 : List HP} (i j : Nat) {A' : Option Addr} {l' c' : Nat} {ys : List Value} (hi : sel H i = some (HP.row Et 1 A' l' c' ys, H1)) (hj : sel H1 j = some (HP.rowsx Et m A len c xs k, H2)) (hk : k < m) :
    ∀ w U, Chunks w U H → Chunks w U (HP.rows Et m (up A k A') (up len k l') (up c k c') (up xs k ys) :: H2) := fun w U h => by
  have h1 := Chunks.bag_in (h.perm ((sel_perm hi).trans ((sel_perm hj).cons _)))
  refine Chunks.bag_perm ?_ h1
  have hp := (List.perm_cons_erase (List.mem_range.2 hk)).map fun j => HP.row Et 1 (up A k A' j) (up len k l' j) (up c k c' j) (up xs k ys j)
  refine List.Perm.trans ?_ hp.symm
  rw [List.map_cons, up_same, up_same, up_same, up_same]
  have : (((List.range m).erase k).map fun j => HP.row Et 1 (up A k A' j) (up len k l' j) (up c k c' j) (up xs k ys j)) = ((List.range m).erase k).map fun j => HP.row Et 1 (A j) (len j) (c j) (xs j) := by
    apply List.map_congr_left
    intro q hq
    have hne := ((List.Nodup.mem_erase_iff (List.nodup_range)).1 hq).1
    rw [up_ne _ _ hne, up_ne _ _ hne, up_ne _ _ hne, up_ne _ _ hne]
  rw [this]
theorem cv_rows_snocN {Et m N : Nat} {A : Nat → Option Addr} {c : Nat → Nat} {xs : Nat → List Value} {H1 H2 : List HP} (i j : Nat) {A' : Option Addr} {c' : Nat} {ys : List Value} (hi : sel H i = some (HP.row Et 1 A' N c' ys, H1)) (hj : sel H1 j = some (HP.rows Et m A (fun _ => N) c xs, H2)) (hy : ys = xs m) :
    ∀ w U, Chunks w U H → Chunks w U (HP.rows Et (m + 1) (up A m A') (fun _ => N) (up c m c') xs :: H2) := fun w U h => by
  subst hy
  have h1 := E.rows_snoc (h.perm ((sel_perm hi).trans ((sel_perm hj).cons _)))
  rw [up_id (f := fun _ => N) rfl, up_self] at h1
  exact h1
theorem cv_snocN {Et m N q cc : Nat} {B : Option Addr} {A : Nat → Option Addr} {u : Nat → Nat} {A' : Option Addr} {c' : Nat} {H1 : List HP} (i : Nat) (hi : sel H i = some (HP.row Et 1 B q cc (slc2 m A (fun _ => N) u ++ [.slice A' N c']), H1)) (hq : q = m + 1) :
    ∀ w U, Chunks w U H → Chunks w U (HP.row Et 1 B (m + 1) cc (slc2 (m + 1) (up A m A') (fun _ => N) (up u m c')) :: H1) := by
  subst hq
  exact cv_chunk i _ hi (by rw [slc2_snocN])
end
/-! ### The neighbours of a place, as they are found -/
/-- the rows up to i are done, the others hold nothing. -/
structure NA (x : Bf.G) (i : Nat) (Xn : Nat → Option Addr) (ln un : Nat → Nat) (xs : Nat → List Value) : Prop where
  d : ∀ j, j < i → ln j = (x.nr j).length ∧ xs j = ints (nn x j)
  o : ∀ j, i ≤ j → Xn j = none ∧ ln j = 0 ∧ un j = 0 ∧ xs j = []
theorem NA.start (x : Bf.G) : NA x 0 (fun _ => none) (fun _ => 0) (fun _ => 0) (fun _ => []) := ⟨fun j h => by omega, fun j _ => ⟨rfl, rfl, rfl, rfl⟩⟩
theorem NA.next {x : Bf.G} {i : Nat} {Xn : Nat → Option Addr} {ln un : Nat → Nat} {xs : Nat → List Value} (h : NA x i Xn ln un xs) (A : Option Addr) (c : Nat) : NA x (i + 1) (up Xn i A) (up ln i (nn x i).length) (up un i c) (up xs i (ints (nn x i))) := by
  refine ⟨fun j hj => ?_, fun j hj => ?_⟩
  · by_cases e : j = i
    · subst e; rw [up_same, up_same]; simp
    · rw [up_ne _ _ e, up_ne _ _ e]; exact h.d j (by omega)
  · rw [up_ne _ _ (by omega), up_ne _ _ (by omega), up_ne _ _ (by omega), up_ne _ _ (by omega)]; exact h.o j (by omega)
def HP.nb (B8 PB Bp N : Nat) (An : Option Addr) (cs : List Value) (i : Nat) (Xn : Nat → Option Addr) (ln un : Nat → Nat) (xs : Nat → List Value) (pre : List Int) : HP :=
  HP.ex fun (z : Option Addr × Nat) => HP.bag [HP.blk B8 87 [.pointer (some ⟨PB, 0, .none⟩)], HP.blk Bp 3 [.int .i64 (i : Int)], HP.blk PB 93 cs, HP.row 31 1 An N N (slc2 N (up Xn i z.1) (up ln i pre.length) (up un i z.2)), HP.rows 3 N (up Xn i z.1) (up ln i pre.length) (up un i z.2) (up xs i (ints pre))]
section
variable {P : Program} {n : Fr} {w0 : World} {F : Nat → Prop} {K : Kt} {l : Env} {H : List HP} {o : Oper}
variable {B8 PB Bp N : Nat} {An : Option Addr} {cs : List Value} {i : Nat} {Xn : Nat → Option Addr} {ln un : Nat → Nat} {xs : Nat → List Value}
theorem cv_nbin {x : Bf.G} {H2 : List HP} (is : List Nat) (hs : E.sels H is = some (HP.blk B8 87 [.pointer (some ⟨PB, 0, .none⟩)] :: HP.blk Bp 3 [.int .i64 (i : Int)] :: HP.blk PB 93 cs :: HP.row 31 1 An N N (slc2 N Xn ln un) :: HP.rows 3 N Xn ln un xs :: H2)) (h : NA x i Xn ln un xs) :
    ∀ w U, Chunks w U H → Chunks w U (HP.nb B8 PB Bp N An cs i Xn ln un xs [] :: H2) := by
  obtain ⟨h1, h2, h3, h4⟩ := h.o i (Nat.le_refl _)
  intro w U hc
  obtain ⟨S, g1, g2, g3⟩ := Chunks.gather (ps := [_, _, _, _, _]) (r := H2) (sels_chunks hs hc)
  refine ⟨S, ⟨(none, 0), ?_⟩, g2, g3⟩
  simp only [List.length_nil, up_id h1, up_id h2, up_id h3, up_id (show xs i = ints [] from h4)]
  exact g1
theorem CW.nbout {c : Code} {pre : List Int} {H1 : List HP} (hi : H = HP.nb B8 PB Bp N An cs i Xn ln un xs pre :: H1) (hN : i < N)
    (k : ∀ A u, CW P n w0 F c K l (HP.row 3 1 A pre.length u (ints pre) :: HP.rowsx 3 N (up Xn i A) (up ln i pre.length) (up un i u) (up xs i (ints pre)) i :: HP.blk B8 87 [.pointer (some ⟨PB, 0, .none⟩)] :: HP.blk Bp 3 [.int .i64 (i : Int)] :: HP.blk PB 93 cs :: HP.row 31 1 An N N (slc2 N (up Xn i A) (up ln i pre.length) (up un i u)) :: H1)) : CW P n w0 F c K l H := by
  subst hi
  refine CW.exout 0 rfl fun z => ?_
  refine CW.open 0 rfl ?_
  refine CW.conv (cv_rows_out (k := i) 4 rfl hN) ?_
  rw [up_same, up_same, up_same, up_same]
  exact k z.1 z.2
theorem CW.nbend {c : Code} {pre : List Int} {H1 : List HP} (hi : H = HP.nb B8 PB Bp N An cs i Xn ln un xs pre :: H1)
    (k : ∀ A u, CW P n w0 F c K l (HP.blk B8 87 [.pointer (some ⟨PB, 0, .none⟩)] :: HP.blk Bp 3 [.int .i64 (i : Int)] :: HP.blk PB 93 cs :: HP.row 31 1 An N N (slc2 N (up Xn i A) (up ln i pre.length) (up un i u)) :: HP.rows 3 N (up Xn i A) (up ln i pre.length) (up un i u) (up xs i (ints pre)) :: H1)) : CW P n w0 F c K l H := by
  subst hi
  exact CW.exout 0 rfl fun z => CW.open 0 rfl (k z.1 z.2)
theorem cv_nbback {pre post : List Int} {m : Nat} {ys : List Value} {A A' : Option Addr} {u u' : Nat} {H2 : List HP} (is : List Nat) (hN : i < N) (hm : m = post.length) (hy : ys = ints post)
    (hs : E.sels H is = some (HP.row 3 1 A' m u' ys :: HP.rowsx 3 N (up Xn i A) (up ln i pre.length) (up un i u) (up xs i (ints pre)) i :: HP.blk B8 87 [.pointer (some ⟨PB, 0, .none⟩)] :: HP.blk Bp 3 [.int .i64 (i : Int)] :: HP.blk PB 93 cs :: HP.row 31 1 An N N (slc2 N (up (up Xn i A) i A') (up (up ln i pre.length) i m) (up (up un i u) i u')) :: H2)) :
    ∀ w U, Chunks w U H → Chunks w U (HP.nb B8 PB Bp N An cs i Xn ln un xs post :: H2) := by
  subst hm hy
  intro w U hc
  have h1 := cv_rows_in 0 0 rfl rfl hN w U (sels_chunks hs hc)
  simp only [up_up] at h1
  have h2 := h1.perm (H' := HP.blk B8 87 [.pointer (some ⟨PB, 0, .none⟩)] :: HP.blk Bp 3 [.int .i64 (i : Int)] :: HP.blk PB 93 cs :: HP.row 31 1 An N N (slc2 N (up Xn i A') (up ln i post.length) (up un i u')) :: HP.rows 3 N (up Xn i A') (up ln i post.length) (up un i u') (up xs i (ints post)) :: H2)
    ((List.Perm.swap _ _ _).trans (((List.Perm.swap _ _ _).trans (((List.Perm.swap _ _ _).trans (((List.Perm.swap _ _ _)).cons _)).cons _)).cons _))
  obtain ⟨S, g1, g2, g3⟩ := Chunks.gather (ps := [_, _, _, _, _]) (r := H2) h2
  exact ⟨S, ⟨(A', u'), g1⟩, g2, g3⟩
end
end E
end Go.Proofs.Ytflkbabhbnmajaa

/- Closed facts on the program (printed by gen.py). -/
namespace Go.Proofs.Ytflkbabhbnmajaa
open Go Go.RowKit
set_option linter.unusedSimpArgs false
set_option linter.unusedVariables false
theorem bld93_0_1_4 (x0 : Int) (x1 : Option Addr) (m1 c1 : Nat) (x2 : Option Addr) (m2 c2 : Nat) (w : World) : (Instr.build 93 #[(0, .int .i64 x0), (1, .slice x1 m1 c1), (4, .slice x2 m2 c2)]).run Try.prog w = .ok (.agg #[.int .i64 x0, .slice x1 m1 c1, .slice none 0 0, .slice none 0 0, .slice x2 m2 c2]) w := by kernel_rfl
theorem bsl90_1_0 (x0 : Option Addr) (m0 c0 : Nat) (w : World) : (Instr.buildSlice 90 1 #[(0, .slice x0 m0 c0)]).run Try.prog w = .ok (.slice (some ⟨w.heap.size, 0, none⟩) 1 1) (w.alloc (.cells #[.slice x0 m0 c0] 89)) := by kernel_rfl
theorem bsl91_1_0 (x0 : Option Addr) (m0 c0 : Nat) (w : World) : (Instr.buildSlice 91 1 #[(0, .slice x0 m0 c0)]).run Try.prog w = .ok (.slice (some ⟨w.heap.size, 0, none⟩) 1 1) (w.alloc (.cells #[.slice x0 m0 c0] 31)) := by kernel_rfl
theorem in87 : E.In Try.prog 87 (.pointer none) 1 8 := by unfold E.In; kernel_rfl
theorem in90 : E.In Try.prog 90 (.slice none 0 0) 1 24 := by unfold E.In; kernel_rfl
theorem in91 : E.In Try.prog 91 (.slice none 0 0) 1 24 := by unfold E.In; kernel_rfl
theorem nm101 : E.Nm Try.prog 101 := ⟨Try.f101, Try.func101, rfl, by kernel_rfl⟩
theorem nm103 : E.Nm Try.prog 103 := ⟨Try.f103, Try.func103, rfl, by kernel_rfl⟩
theorem nm126 : E.Nm Try.prog 126 := ⟨Try.f126, Try.func126, rfl, by kernel_rfl⟩
end Go.Proofs.Ytflkbabhbnmajaa

/- Walks (printed by gen.py). -/
namespace Go.Proofs.Ytflkbabhbnmajaa
open Go Go.RowKit
set_option linter.unusedSimpArgs false
set_option linter.unusedVariables false

set_option maxRecDepth 100000 in
theorem np_ok (g : E.Cfg) (t a b : Int) (w0 : World) (hg : g.rd w0 (E.Old w0)) (hgf : g.q.fit) (hL : Rt.Leg g.q t a b) :
    Calls Try.prog 59 #[g.v, .int .i64 t, .agg #[.int .i64 a, .int .i64 b]] w0 (E.Post w0 (E.Old w0) fun v Hn => ∃ (y : E.Pl) (D : Bf.DD), v = y.v ∧ Hn = [E.HP.plan y D] ∧ y.x = (Rt.G g.q t a b) ∧ ∀ k p, k < y.x.K → p < y.x.n → y.x.cell p = true → Bf.Ar y.x k p (D k p)) := by
  obtain ⟨hX1, hX2, hX3, hX4⟩ := id hg
  have hgl := E.Cfg.fit_len hgf
  obtain ⟨ht0, ht3, htn⟩ := hL.ten
  have htl : t.toNat < g.ts.length := by rw [← E.Cfg.ts_len g]; exact htn
  have hn64 : g.l.length ≤ 64 := Rt.len_le hL.c
  have hs16 : 1 ≤ g.s.length ∧ g.s.length ≤ 16 := Rt.per_of hL.c
  have hra : 0 ≤ a ∧ a < (g.l.length : Int) := hL.ra
  have hrb : 0 ≤ b ∧ b < (g.l.length : Int) := hL.rb
  have hsp : Rt.team g.q t = (g.ts.getD t.toNat E.Tm.z).q := E.Cfg.ts_getD g _
  have hspl := Rt.spots_small hL
  rw [hsp] at hspl
  refine E.calls_of_m (vs := [g.v, .int .i64 t, .agg #[.int .i64 a, .int .i64 b]]) (H := []) Try.func59 Try.ntmps59 rfl rfl (E.HA.start w0) ?_
  refine E.CW.seq ?_
  refine E.CW.region ?_
  refine E.OW.box rfl rfl rfl rfl rfl rfl (fun B1 => ?_)
  refine E.OW.box rfl rfl rfl rfl rfl rfl (fun B2 => ?_)
  refine E.OW.pure rfl rfl rfl (E.PV.assign rfl rfl) ?_
  refine E.OW.nil ?_
  refine E.then_n ?_
  refine E.CW.seq ?_
  refine E.CW.region ?_
  refine E.OW.pure rfl rfl rfl (E.PV.fieldAddr fa28_0 rfl rfl) ?_
  refine E.OW.pure rfl rfl rfl (E.PV.fieldAddr fa24_2 rfl rfl) ?_
  refine E.OW.pure rfl rfl rfl (E.PV.load (i := 1) na22 rfl rfl rfl rfl) ?_
  refine E.OW.pure rfl rfl rfl (E.PV.len Try.underlying22 rfl rfl) ?_
  refine E.OW.pure rfl rfl rfl (E.PV.assign rfl rfl) ?_
  refine E.OW.nil ?_
  refine E.then_n ?_
  refine E.CW.cut [1, 3, 5, 7, 9999] 0 rfl rfl (fun mods Hm => ∃ Ac : Option Addr, ∃ An : Option Addr, ∃ PB : Nat, ∃ B8 : Nat, mods = [(8, .pointer (some ⟨B8, 0, none⟩))] ∧ Hm = [E.HP.blk B8 87 [.pointer (some ⟨PB, 0, .none⟩)], E.HP.blk PB 93 [.int .i64 (g.s.length : Int), .slice Ac g.l.length g.l.length, .slice none 0 0, .slice none 0 0, .slice An g.l.length g.l.length], E.HP.row 4 1 Ac g.l.length g.l.length (E.bls g.l.length (fun _ => false)), E.HP.row 31 1 An g.l.length g.l.length (E.slc2 g.l.length (fun _ => none) (fun _ => 0) (fun _ => 0))] ∧ True) ?_ ?_
  · skip
    refine E.CW.drawx mixed [1] rfl ?_
    all_goals (refine E.AW.first 0 rfl (by kernel_rfl) (by kernel_rfl) (by kernel_rfl) rfl rfl rfl (E.PV.fieldAddr fa28_1 rfl rfl) ?_)
    all_goals (refine E.AW.first 1 rfl (by kernel_rfl) (by kernel_rfl) (by kernel_rfl) rfl rfl rfl (E.PV.load (i := 0) na22 rfl rfl rfl rfl) ?_)
    all_goals (refine E.AW.first 2 rfl (by kernel_rfl) (by kernel_rfl) (by kernel_rfl) rfl rfl rfl (E.PV.len Try.underlying22 rfl rfl) ?_)
    all_goals (refine E.AW.first 3 rfl (by kernel_rfl) (by kernel_rfl) (by kernel_rfl) rfl rfl rfl (E.PV.move rfl rfl) ?_)
    all_goals (refine E.AW.first 5 rfl (by kernel_rfl) (by kernel_rfl) (by kernel_rfl) rfl rfl rfl (E.PV.move rfl rfl) ?_)
    all_goals (
      refine E.AW.three 4 6 9 (by kernel_rfl) rfl rfl rfl ?ga1 ?gb1 ?gc1
      case' ga1 =>
          all_goals (refine E.OW.make_bl _ Try.underlying89 in4 rfl rfl rfl rfl rfl rfl rfl ?_ ?_ (fun A3 => ?_); (focus (unfold maxLen; omega)); (focus (omega)))
          all_goals (first | (refine E.AW.nil [1] rfl ?_) | (refine E.AW.nil [2] rfl ?_) | (refine E.AW.nil [3] rfl ?_) | (refine E.AW.nil [4] rfl ?_) | (refine E.AW.nil [5] rfl ?_) | (refine E.AW.nil [6] rfl ?_) | (refine E.AW.nil [7] rfl ?_) | (refine E.AW.nil [0] rfl ?_) | (refine E.AW.nil [0] rfl ?_))
          all_goals (
            refine E.AW.two 6 9 (by kernel_rfl) rfl rfl ?ga2 ?gb2
            case' ga2 =>
                all_goals (refine E.OW.make_s2 _ Try.underlying91 in31 rfl rfl rfl rfl rfl rfl rfl ?_ ?_ (fun A4 => ?_); (focus (unfold maxLen; omega)); (focus (omega)))
                all_goals (first | (refine E.AW.nil [1] rfl ?_) | (refine E.AW.nil [2] rfl ?_) | (refine E.AW.nil [3] rfl ?_) | (refine E.AW.nil [4] rfl ?_) | (refine E.AW.nil [5] rfl ?_) | (refine E.AW.nil [6] rfl ?_) | (refine E.AW.nil [7] rfl ?_) | (refine E.AW.nil [0] rfl ?_) | (refine E.AW.nil [0] rfl ?_))
                all_goals (refine E.AW.first 7 rfl (by kernel_rfl) (by kernel_rfl) (by kernel_rfl) rfl rfl rfl (E.PV.build (ps := [(0, .tmp 29), (1, .tmp 31), (4, .tmp 33)]) rfl rfl (fun w => bld93_0_1_4 _ _ _ _ _ _ _ w)) ?_)
                all_goals (
                  refine E.AW.two 8 9 (by kernel_rfl) rfl rfl ?ga3 ?gb3
                  case' ga3 =>
                      all_goals (refine E.OW.box rfl rfl rfl rfl rfl rfl (fun B5 => ?_))
                      all_goals (first | (refine E.AW.nil [1] rfl ?_) | (refine E.AW.nil [2] rfl ?_) | (refine E.AW.nil [3] rfl ?_) | (refine E.AW.nil [4] rfl ?_) | (refine E.AW.nil [5] rfl ?_) | (refine E.AW.nil [6] rfl ?_) | (refine E.AW.nil [7] rfl ?_) | (refine E.AW.nil [0] rfl ?_) | (refine E.AW.nil [0] rfl ?_))
                      all_goals (refine E.AW.one 9 (by kernel_rfl) rfl ?_)
                      all_goals (refine E.OW.alloc (in87.zr) rfl rfl rfl rfl rfl (fun B6 => ?_))
                      all_goals (first | (refine E.AW.nil [1] rfl ?_) | (refine E.AW.nil [2] rfl ?_) | (refine E.AW.nil [3] rfl ?_) | (refine E.AW.nil [4] rfl ?_) | (refine E.AW.nil [5] rfl ?_) | (refine E.AW.nil [6] rfl ?_) | (refine E.AW.nil [7] rfl ?_) | (refine E.AW.nil [0] rfl ?_) | (refine E.AW.nil [0] rfl ?_))
                      all_goals (refine E.AW.one 10 (by kernel_rfl) rfl ?_)
                      all_goals (refine E.OW.store (i := 0) in87.size rfl rfl rfl rfl rfl rfl rfl rfl rfl ?_)
                      all_goals (first | (refine E.AW.nil [1] rfl ?_) | (refine E.AW.nil [2] rfl ?_) | (refine E.AW.nil [3] rfl ?_) | (refine E.AW.nil [4] rfl ?_) | (refine E.AW.nil [5] rfl ?_) | (refine E.AW.nil [6] rfl ?_) | (refine E.AW.nil [7] rfl ?_) | (refine E.AW.nil [0] rfl ?_) | (refine E.AW.nil [0] rfl ?_))
                      all_goals (refine E.AW.done (by kernel_rfl) ?_)
                  case' gb3 =>
                      all_goals (refine E.OW.alloc (in87.zr) rfl rfl rfl rfl rfl (fun B7 => ?_))
                      all_goals (first | (refine E.AW.nil [1] rfl ?_) | (refine E.AW.nil [2] rfl ?_) | (refine E.AW.nil [3] rfl ?_) | (refine E.AW.nil [4] rfl ?_) | (refine E.AW.nil [5] rfl ?_) | (refine E.AW.nil [6] rfl ?_) | (refine E.AW.nil [7] rfl ?_) | (refine E.AW.nil [0] rfl ?_) | (refine E.AW.nil [0] rfl ?_))
                      all_goals (refine E.AW.one 8 (by kernel_rfl) rfl ?_)
                      all_goals (refine E.OW.box rfl rfl rfl rfl rfl rfl (fun B8 => ?_))
                      all_goals (first | (refine E.AW.nil [1] rfl ?_) | (refine E.AW.nil [2] rfl ?_) | (refine E.AW.nil [3] rfl ?_) | (refine E.AW.nil [4] rfl ?_) | (refine E.AW.nil [5] rfl ?_) | (refine E.AW.nil [6] rfl ?_) | (refine E.AW.nil [7] rfl ?_) | (refine E.AW.nil [0] rfl ?_) | (refine E.AW.nil [0] rfl ?_))
                      all_goals (refine E.AW.one 10 (by kernel_rfl) rfl ?_)
                      all_goals (refine E.OW.store (i := 1) in87.size rfl rfl rfl rfl rfl rfl rfl rfl rfl ?_)
                      all_goals (first | (refine E.AW.nil [1] rfl ?_) | (refine E.AW.nil [2] rfl ?_) | (refine E.AW.nil [3] rfl ?_) | (refine E.AW.nil [4] rfl ?_) | (refine E.AW.nil [5] rfl ?_) | (refine E.AW.nil [6] rfl ?_) | (refine E.AW.nil [7] rfl ?_) | (refine E.AW.nil [0] rfl ?_) | (refine E.AW.nil [0] rfl ?_))
                      all_goals (refine E.AW.done (by kernel_rfl) ?_))
            case' gb2 =>
                all_goals (refine E.OW.alloc (in87.zr) rfl rfl rfl rfl rfl (fun B9 => ?_))
                all_goals (first | (refine E.AW.nil [1] rfl ?_) | (refine E.AW.nil [2] rfl ?_) | (refine E.AW.nil [3] rfl ?_) | (refine E.AW.nil [4] rfl ?_) | (refine E.AW.nil [5] rfl ?_) | (refine E.AW.nil [6] rfl ?_) | (refine E.AW.nil [7] rfl ?_) | (refine E.AW.nil [0] rfl ?_) | (refine E.AW.nil [0] rfl ?_))
                all_goals (refine E.AW.one 6 (by kernel_rfl) rfl ?_)
                all_goals (refine E.OW.make_s2 _ Try.underlying91 in31 rfl rfl rfl rfl rfl rfl rfl ?_ ?_ (fun A10 => ?_); (focus (unfold maxLen; omega)); (focus (omega)))
                all_goals (first | (refine E.AW.nil [1] rfl ?_) | (refine E.AW.nil [2] rfl ?_) | (refine E.AW.nil [3] rfl ?_) | (refine E.AW.nil [4] rfl ?_) | (refine E.AW.nil [5] rfl ?_) | (refine E.AW.nil [6] rfl ?_) | (refine E.AW.nil [7] rfl ?_) | (refine E.AW.nil [0] rfl ?_) | (refine E.AW.nil [0] rfl ?_))
                all_goals (refine E.AW.first 7 rfl (by kernel_rfl) (by kernel_rfl) (by kernel_rfl) rfl rfl rfl (E.PV.build (ps := [(0, .tmp 29), (1, .tmp 31), (4, .tmp 33)]) rfl rfl (fun w => bld93_0_1_4 _ _ _ _ _ _ _ w)) ?_)
                all_goals (refine E.AW.one 8 (by kernel_rfl) rfl ?_)
                all_goals (refine E.OW.box rfl rfl rfl rfl rfl rfl (fun B11 => ?_))
                all_goals (first | (refine E.AW.nil [1] rfl ?_) | (refine E.AW.nil [2] rfl ?_) | (refine E.AW.nil [3] rfl ?_) | (refine E.AW.nil [4] rfl ?_) | (refine E.AW.nil [5] rfl ?_) | (refine E.AW.nil [6] rfl ?_) | (refine E.AW.nil [7] rfl ?_) | (refine E.AW.nil [0] rfl ?_) | (refine E.AW.nil [0] rfl ?_))
                all_goals (refine E.AW.one 10 (by kernel_rfl) rfl ?_)
                all_goals (refine E.OW.store (i := 2) in87.size rfl rfl rfl rfl rfl rfl rfl rfl rfl ?_)
                all_goals (first | (refine E.AW.nil [1] rfl ?_) | (refine E.AW.nil [2] rfl ?_) | (refine E.AW.nil [3] rfl ?_) | (refine E.AW.nil [4] rfl ?_) | (refine E.AW.nil [5] rfl ?_) | (refine E.AW.nil [6] rfl ?_) | (refine E.AW.nil [7] rfl ?_) | (refine E.AW.nil [0] rfl ?_) | (refine E.AW.nil [0] rfl ?_))
                all_goals (refine E.AW.done (by kernel_rfl) ?_))
      case' gb1 =>
          all_goals (refine E.OW.make_s2 _ Try.underlying91 in31 rfl rfl rfl rfl rfl rfl rfl ?_ ?_ (fun A12 => ?_); (focus (unfold maxLen; omega)); (focus (omega)))
          all_goals (first | (refine E.AW.nil [1] rfl ?_) | (refine E.AW.nil [2] rfl ?_) | (refine E.AW.nil [3] rfl ?_) | (refine E.AW.nil [4] rfl ?_) | (refine E.AW.nil [5] rfl ?_) | (refine E.AW.nil [6] rfl ?_) | (refine E.AW.nil [7] rfl ?_) | (refine E.AW.nil [0] rfl ?_) | (refine E.AW.nil [0] rfl ?_))
          all_goals (
            refine E.AW.two 4 9 (by kernel_rfl) rfl rfl ?ga4 ?gb4
            case' ga4 =>
                all_goals (refine E.OW.make_bl _ Try.underlying89 in4 rfl rfl rfl rfl rfl rfl rfl ?_ ?_ (fun A13 => ?_); (focus (unfold maxLen; omega)); (focus (omega)))
                all_goals (first | (refine E.AW.nil [1] rfl ?_) | (refine E.AW.nil [2] rfl ?_) | (refine E.AW.nil [3] rfl ?_) | (refine E.AW.nil [4] rfl ?_) | (refine E.AW.nil [5] rfl ?_) | (refine E.AW.nil [6] rfl ?_) | (refine E.AW.nil [7] rfl ?_) | (refine E.AW.nil [0] rfl ?_) | (refine E.AW.nil [0] rfl ?_))
                all_goals (refine E.AW.first 7 rfl (by kernel_rfl) (by kernel_rfl) (by kernel_rfl) rfl rfl rfl (E.PV.build (ps := [(0, .tmp 29), (1, .tmp 31), (4, .tmp 33)]) rfl rfl (fun w => bld93_0_1_4 _ _ _ _ _ _ _ w)) ?_)
                all_goals (
                  refine E.AW.two 8 9 (by kernel_rfl) rfl rfl ?ga5 ?gb5
                  case' ga5 =>
                      all_goals (refine E.OW.box rfl rfl rfl rfl rfl rfl (fun B14 => ?_))
                      all_goals (first | (refine E.AW.nil [1] rfl ?_) | (refine E.AW.nil [2] rfl ?_) | (refine E.AW.nil [3] rfl ?_) | (refine E.AW.nil [4] rfl ?_) | (refine E.AW.nil [5] rfl ?_) | (refine E.AW.nil [6] rfl ?_) | (refine E.AW.nil [7] rfl ?_) | (refine E.AW.nil [0] rfl ?_) | (refine E.AW.nil [0] rfl ?_))
                      all_goals (refine E.AW.one 9 (by kernel_rfl) rfl ?_)
                      all_goals (refine E.OW.alloc (in87.zr) rfl rfl rfl rfl rfl (fun B15 => ?_))
                      all_goals (first | (refine E.AW.nil [1] rfl ?_) | (refine E.AW.nil [2] rfl ?_) | (refine E.AW.nil [3] rfl ?_) | (refine E.AW.nil [4] rfl ?_) | (refine E.AW.nil [5] rfl ?_) | (refine E.AW.nil [6] rfl ?_) | (refine E.AW.nil [7] rfl ?_) | (refine E.AW.nil [0] rfl ?_) | (refine E.AW.nil [0] rfl ?_))
                      all_goals (refine E.AW.one 10 (by kernel_rfl) rfl ?_)
                      all_goals (refine E.OW.store (i := 0) in87.size rfl rfl rfl rfl rfl rfl rfl rfl rfl ?_)
                      all_goals (first | (refine E.AW.nil [1] rfl ?_) | (refine E.AW.nil [2] rfl ?_) | (refine E.AW.nil [3] rfl ?_) | (refine E.AW.nil [4] rfl ?_) | (refine E.AW.nil [5] rfl ?_) | (refine E.AW.nil [6] rfl ?_) | (refine E.AW.nil [7] rfl ?_) | (refine E.AW.nil [0] rfl ?_) | (refine E.AW.nil [0] rfl ?_))
                      all_goals (refine E.AW.done (by kernel_rfl) ?_)
                  case' gb5 =>
                      all_goals (refine E.OW.alloc (in87.zr) rfl rfl rfl rfl rfl (fun B16 => ?_))
                      all_goals (first | (refine E.AW.nil [1] rfl ?_) | (refine E.AW.nil [2] rfl ?_) | (refine E.AW.nil [3] rfl ?_) | (refine E.AW.nil [4] rfl ?_) | (refine E.AW.nil [5] rfl ?_) | (refine E.AW.nil [6] rfl ?_) | (refine E.AW.nil [7] rfl ?_) | (refine E.AW.nil [0] rfl ?_) | (refine E.AW.nil [0] rfl ?_))
                      all_goals (refine E.AW.one 8 (by kernel_rfl) rfl ?_)
                      all_goals (refine E.OW.box rfl rfl rfl rfl rfl rfl (fun B17 => ?_))
                      all_goals (first | (refine E.AW.nil [1] rfl ?_) | (refine E.AW.nil [2] rfl ?_) | (refine E.AW.nil [3] rfl ?_) | (refine E.AW.nil [4] rfl ?_) | (refine E.AW.nil [5] rfl ?_) | (refine E.AW.nil [6] rfl ?_) | (refine E.AW.nil [7] rfl ?_) | (refine E.AW.nil [0] rfl ?_) | (refine E.AW.nil [0] rfl ?_))
                      all_goals (refine E.AW.one 10 (by kernel_rfl) rfl ?_)
                      all_goals (refine E.OW.store (i := 1) in87.size rfl rfl rfl rfl rfl rfl rfl rfl rfl ?_)
                      all_goals (first | (refine E.AW.nil [1] rfl ?_) | (refine E.AW.nil [2] rfl ?_) | (refine E.AW.nil [3] rfl ?_) | (refine E.AW.nil [4] rfl ?_) | (refine E.AW.nil [5] rfl ?_) | (refine E.AW.nil [6] rfl ?_) | (refine E.AW.nil [7] rfl ?_) | (refine E.AW.nil [0] rfl ?_) | (refine E.AW.nil [0] rfl ?_))
                      all_goals (refine E.AW.done (by kernel_rfl) ?_))
            case' gb4 =>
                all_goals (refine E.OW.alloc (in87.zr) rfl rfl rfl rfl rfl (fun B18 => ?_))
                all_goals (first | (refine E.AW.nil [1] rfl ?_) | (refine E.AW.nil [2] rfl ?_) | (refine E.AW.nil [3] rfl ?_) | (refine E.AW.nil [4] rfl ?_) | (refine E.AW.nil [5] rfl ?_) | (refine E.AW.nil [6] rfl ?_) | (refine E.AW.nil [7] rfl ?_) | (refine E.AW.nil [0] rfl ?_) | (refine E.AW.nil [0] rfl ?_))
                all_goals (refine E.AW.one 4 (by kernel_rfl) rfl ?_)
                all_goals (refine E.OW.make_bl _ Try.underlying89 in4 rfl rfl rfl rfl rfl rfl rfl ?_ ?_ (fun A19 => ?_); (focus (unfold maxLen; omega)); (focus (omega)))
                all_goals (first | (refine E.AW.nil [1] rfl ?_) | (refine E.AW.nil [2] rfl ?_) | (refine E.AW.nil [3] rfl ?_) | (refine E.AW.nil [4] rfl ?_) | (refine E.AW.nil [5] rfl ?_) | (refine E.AW.nil [6] rfl ?_) | (refine E.AW.nil [7] rfl ?_) | (refine E.AW.nil [0] rfl ?_) | (refine E.AW.nil [0] rfl ?_))
                all_goals (refine E.AW.first 7 rfl (by kernel_rfl) (by kernel_rfl) (by kernel_rfl) rfl rfl rfl (E.PV.build (ps := [(0, .tmp 29), (1, .tmp 31), (4, .tmp 33)]) rfl rfl (fun w => bld93_0_1_4 _ _ _ _ _ _ _ w)) ?_)
                all_goals (refine E.AW.one 8 (by kernel_rfl) rfl ?_)
                all_goals (refine E.OW.box rfl rfl rfl rfl rfl rfl (fun B20 => ?_))
                all_goals (first | (refine E.AW.nil [1] rfl ?_) | (refine E.AW.nil [2] rfl ?_) | (refine E.AW.nil [3] rfl ?_) | (refine E.AW.nil [4] rfl ?_) | (refine E.AW.nil [5] rfl ?_) | (refine E.AW.nil [6] rfl ?_) | (refine E.AW.nil [7] rfl ?_) | (refine E.AW.nil [0] rfl ?_) | (refine E.AW.nil [0] rfl ?_))
                all_goals (refine E.AW.one 10 (by kernel_rfl) rfl ?_)
                all_goals (refine E.OW.store (i := 2) in87.size rfl rfl rfl rfl rfl rfl rfl rfl rfl ?_)
                all_goals (first | (refine E.AW.nil [1] rfl ?_) | (refine E.AW.nil [2] rfl ?_) | (refine E.AW.nil [3] rfl ?_) | (refine E.AW.nil [4] rfl ?_) | (refine E.AW.nil [5] rfl ?_) | (refine E.AW.nil [6] rfl ?_) | (refine E.AW.nil [7] rfl ?_) | (refine E.AW.nil [0] rfl ?_) | (refine E.AW.nil [0] rfl ?_))
                all_goals (refine E.AW.done (by kernel_rfl) ?_))
      case' gc1 =>
          all_goals (refine E.OW.alloc (in87.zr) rfl rfl rfl rfl rfl (fun B21 => ?_))
          all_goals (first | (refine E.AW.nil [1] rfl ?_) | (refine E.AW.nil [2] rfl ?_) | (refine E.AW.nil [3] rfl ?_) | (refine E.AW.nil [4] rfl ?_) | (refine E.AW.nil [5] rfl ?_) | (refine E.AW.nil [6] rfl ?_) | (refine E.AW.nil [7] rfl ?_) | (refine E.AW.nil [0] rfl ?_) | (refine E.AW.nil [0] rfl ?_))
          all_goals (
            refine E.AW.two 4 6 (by kernel_rfl) rfl rfl ?ga6 ?gb6
            case' ga6 =>
                all_goals (refine E.OW.make_bl _ Try.underlying89 in4 rfl rfl rfl rfl rfl rfl rfl ?_ ?_ (fun A22 => ?_); (focus (unfold maxLen; omega)); (focus (omega)))
                all_goals (first | (refine E.AW.nil [1] rfl ?_) | (refine E.AW.nil [2] rfl ?_) | (refine E.AW.nil [3] rfl ?_) | (refine E.AW.nil [4] rfl ?_) | (refine E.AW.nil [5] rfl ?_) | (refine E.AW.nil [6] rfl ?_) | (refine E.AW.nil [7] rfl ?_) | (refine E.AW.nil [0] rfl ?_) | (refine E.AW.nil [0] rfl ?_))
                all_goals (refine E.AW.one 6 (by kernel_rfl) rfl ?_)
                all_goals (refine E.OW.make_s2 _ Try.underlying91 in31 rfl rfl rfl rfl rfl rfl rfl ?_ ?_ (fun A23 => ?_); (focus (unfold maxLen; omega)); (focus (omega)))
                all_goals (first | (refine E.AW.nil [1] rfl ?_) | (refine E.AW.nil [2] rfl ?_) | (refine E.AW.nil [3] rfl ?_) | (refine E.AW.nil [4] rfl ?_) | (refine E.AW.nil [5] rfl ?_) | (refine E.AW.nil [6] rfl ?_) | (refine E.AW.nil [7] rfl ?_) | (refine E.AW.nil [0] rfl ?_) | (refine E.AW.nil [0] rfl ?_))
                all_goals (refine E.AW.first 7 rfl (by kernel_rfl) (by kernel_rfl) (by kernel_rfl) rfl rfl rfl (E.PV.build (ps := [(0, .tmp 29), (1, .tmp 31), (4, .tmp 33)]) rfl rfl (fun w => bld93_0_1_4 _ _ _ _ _ _ _ w)) ?_)
                all_goals (refine E.AW.one 8 (by kernel_rfl) rfl ?_)
                all_goals (refine E.OW.box rfl rfl rfl rfl rfl rfl (fun B24 => ?_))
                all_goals (first | (refine E.AW.nil [1] rfl ?_) | (refine E.AW.nil [2] rfl ?_) | (refine E.AW.nil [3] rfl ?_) | (refine E.AW.nil [4] rfl ?_) | (refine E.AW.nil [5] rfl ?_) | (refine E.AW.nil [6] rfl ?_) | (refine E.AW.nil [7] rfl ?_) | (refine E.AW.nil [0] rfl ?_) | (refine E.AW.nil [0] rfl ?_))
                all_goals (refine E.AW.one 10 (by kernel_rfl) rfl ?_)
                all_goals (refine E.OW.store (i := 3) in87.size rfl rfl rfl rfl rfl rfl rfl rfl rfl ?_)
                all_goals (first | (refine E.AW.nil [1] rfl ?_) | (refine E.AW.nil [2] rfl ?_) | (refine E.AW.nil [3] rfl ?_) | (refine E.AW.nil [4] rfl ?_) | (refine E.AW.nil [5] rfl ?_) | (refine E.AW.nil [6] rfl ?_) | (refine E.AW.nil [7] rfl ?_) | (refine E.AW.nil [0] rfl ?_) | (refine E.AW.nil [0] rfl ?_))
                all_goals (refine E.AW.done (by kernel_rfl) ?_)
            case' gb6 =>
                all_goals (refine E.OW.make_s2 _ Try.underlying91 in31 rfl rfl rfl rfl rfl rfl rfl ?_ ?_ (fun A25 => ?_); (focus (unfold maxLen; omega)); (focus (omega)))
                all_goals (first | (refine E.AW.nil [1] rfl ?_) | (refine E.AW.nil [2] rfl ?_) | (refine E.AW.nil [3] rfl ?_) | (refine E.AW.nil [4] rfl ?_) | (refine E.AW.nil [5] rfl ?_) | (refine E.AW.nil [6] rfl ?_) | (refine E.AW.nil [7] rfl ?_) | (refine E.AW.nil [0] rfl ?_) | (refine E.AW.nil [0] rfl ?_))
                all_goals (refine E.AW.one 4 (by kernel_rfl) rfl ?_)
                all_goals (refine E.OW.make_bl _ Try.underlying89 in4 rfl rfl rfl rfl rfl rfl rfl ?_ ?_ (fun A26 => ?_); (focus (unfold maxLen; omega)); (focus (omega)))
                all_goals (first | (refine E.AW.nil [1] rfl ?_) | (refine E.AW.nil [2] rfl ?_) | (refine E.AW.nil [3] rfl ?_) | (refine E.AW.nil [4] rfl ?_) | (refine E.AW.nil [5] rfl ?_) | (refine E.AW.nil [6] rfl ?_) | (refine E.AW.nil [7] rfl ?_) | (refine E.AW.nil [0] rfl ?_) | (refine E.AW.nil [0] rfl ?_))
                all_goals (refine E.AW.first 7 rfl (by kernel_rfl) (by kernel_rfl) (by kernel_rfl) rfl rfl rfl (E.PV.build (ps := [(0, .tmp 29), (1, .tmp 31), (4, .tmp 33)]) rfl rfl (fun w => bld93_0_1_4 _ _ _ _ _ _ _ w)) ?_)
                all_goals (refine E.AW.one 8 (by kernel_rfl) rfl ?_)
                all_goals (refine E.OW.box rfl rfl rfl rfl rfl rfl (fun B27 => ?_))
                all_goals (first | (refine E.AW.nil [1] rfl ?_) | (refine E.AW.nil [2] rfl ?_) | (refine E.AW.nil [3] rfl ?_) | (refine E.AW.nil [4] rfl ?_) | (refine E.AW.nil [5] rfl ?_) | (refine E.AW.nil [6] rfl ?_) | (refine E.AW.nil [7] rfl ?_) | (refine E.AW.nil [0] rfl ?_) | (refine E.AW.nil [0] rfl ?_))
                all_goals (refine E.AW.one 10 (by kernel_rfl) rfl ?_)
                all_goals (refine E.OW.store (i := 3) in87.size rfl rfl rfl rfl rfl rfl rfl rfl rfl ?_)
                all_goals (first | (refine E.AW.nil [1] rfl ?_) | (refine E.AW.nil [2] rfl ?_) | (refine E.AW.nil [3] rfl ?_) | (refine E.AW.nil [4] rfl ?_) | (refine E.AW.nil [5] rfl ?_) | (refine E.AW.nil [6] rfl ?_) | (refine E.AW.nil [7] rfl ?_) | (refine E.AW.nil [0] rfl ?_) | (refine E.AW.nil [0] rfl ?_))
                all_goals (refine E.AW.done (by kernel_rfl) ?_)))
    all_goals (
      skip
      refine E.then_nf ?_
      first | (refine ⟨[(8, _)], [0, 0, 0, 0, 0, 0, 0], _, ?_, rfl, _, _, _, _, rfl, rfl, trivial⟩; focus (repeat (first | exact E.cov_nil | refine ⟨rfl, ?_⟩)); done) | (refine ⟨[(8, _)], [0, 0, 1, 0, 0, 0, 0], _, ?_, rfl, _, _, _, _, rfl, rfl, trivial⟩; focus (repeat (first | exact E.cov_nil | refine ⟨rfl, ?_⟩)); done))
  · rintro _ _ ⟨Ac, An, PB, B8, rfl, rfl, hI⟩
    refine E.CW.seq ?_
    refine E.CW.row_some 2 rfl (by omega) (fun QC hQC => ?_)
    subst hQC
    refine E.CW.row_some 3 rfl (by omega) (fun QN hQN => ?_)
    subst hQN
    refine E.CW.region ?_
    refine E.OW.pure rfl rfl rfl (E.PV.move rfl rfl) ?_
    refine E.OW.make_bl _ Try.underlying89 in4 rfl rfl rfl rfl rfl rfl rfl ?_ ?_ (fun A28 => ?_); (focus (unfold maxLen; omega)); (focus (omega))
    refine E.OW.pure rfl rfl rfl (E.PV.assign rfl rfl) ?_
    refine E.OW.nil ?_
    refine E.then_n ?_
    refine E.CW.seq ?_
    refine E.CW.seq ?_
    refine E.CW.row_some 0 rfl (by omega) (fun QS hQS => ?_)
    subst hQS
    refine E.CW.region ?_
    refine E.OW.pure rfl rfl rfl (E.PV.fieldAddr fa28_2 rfl rfl) ?_
    refine E.OW.pure rfl rfl rfl (E.PV.load (i := 6) na25 rfl rfl rfl rfl) ?_
    refine E.OW.pure rfl rfl rfl (E.PV.move rfl rfl) ?_
    refine E.OW.pure rfl rfl rfl (E.PV.indexAddr (E.rdc hX3) Try.underlying25 in79 rfl rfl rfl (E.tn ?_) ?_ ?_ (by decide)) ?_; (focus (omega)); (focus (first | (simp; done) | (simp; omega))); (focus (omega))
    refine E.OW.pure rfl rfl rfl (E.PV.load_tm (E.rdc hX3) is79 rfl rfl ?_) ?_; (focus (omega))
    (refine E.OW.call nm100 rfl rfl rfl rfl rfl rfl _ (fun w hw => Sp_ok (g.ts.getD t.toNat E.Tm.z) w (hw.rdm (hg.m _ (E.Tm.mem htl))) (E.Cfg.fit_m hgf _ (E.Tm.mem htl)) (by omega)) ?_; rintro _ _ ⟨AS, cS, rfl, rfl⟩)
    refine E.OW.pure rfl rfl rfl (E.PV.len Try.underlying31 rfl rfl) ?_
    refine E.OW.pure rfl rfl rfl (E.PV.move rfl rfl) ?_
    refine E.OW.nil ?_
    refine E.then_n ?_
    refine E.CW.block ?_
    refine E.CW.sels [1, 0, 0, 0, 0, 0, 0, 0, 0] rfl ?_
    refine E.CW.loopk [1, 3, 5, 7, 8, 9, 43, 44, 9999] 1 rfl rfl (fun mm mods Hm => ∃ i : Nat, mm = (Cf.spots (g.ts.getD t.toNat E.Tm.z).q).length - i ∧ mods = [(45, .int .i64 i)] ∧ Hm = [E.HP.row 4 1 (some ⟨QS, 0, .none⟩) g.l.length g.l.length (E.bls g.l.length (E.inl ((Cf.spots (g.ts.getD t.toNat E.Tm.z).q).take i)))] ∧ i ≤ (Cf.spots (g.ts.getD t.toNat E.Tm.z).q).length) ((Cf.spots (g.ts.getD t.toNat E.Tm.z).q).length) ?_ ?_
    · exact ⟨[(45, _)], (by repeat (first | exact E.cov_nil | refine ⟨rfl, ?_⟩)), 0, rfl, rfl, (by rw [E.inl_zero]; rfl), by omega⟩
    · rintro _ _ _ ⟨i, rfl, rfl, rfl, hi⟩
      refine E.CW.seq ?_
      skip
      refine E.CW.region ?_
      refine E.OW.pure rfl rfl rfl (E.PV.lss rfl rfl rfl) ?_
      refine E.OW.nil ?_
      refine E.then_n ?_
      refine E.CW.seq ?_
      refine E.CW.cond rfl (fun hc => ?_) (fun hc => ?_)
      · simp only [E.b0, E.b1, E.b2, E.b3, E.b4, E.b5, E.b6, E.b7, E.b8, E.b9, E.b10, E.b11, E.b12, E.b13, E.b14, E.b15, E.b16, E.b17, E.b18, E.b19, E.b20, reduceCtorEq] at hc
        all_goals (
          refine E.CW.skip ?_
          refine E.then_n ?_
          refine E.CW.seq ?_
          refine E.CW.block ?_
          refine E.CW.seq ?_
          refine E.CW.region ?_
          refine E.OW.pure rfl rfl rfl (E.PV.indexAddr1 (E.rdr (i := 1) rfl) Try.underlying31 in3 rfl rfl rfl rfl ?_ ?_) ?_; (focus (first | (simp; done) | (simp; omega))); (focus (omega))
          refine E.OW.pure rfl rfl rfl (E.PV.load_int (E.rdr (i := 1) rfl) na3 rfl rfl ?_) ?_; (focus (omega))
          refine E.OW.pure rfl rfl rfl (E.PV.assign rfl rfl) ?_
          refine E.OW.nil ?_
          refine E.then_n ?_
          have hsi := hL.spot (p := (Cf.spots (g.ts.getD t.toNat E.Tm.z).q).getD i 0) (by rw [hsp]; exact Rt.getD_mem (by omega))
          obtain ⟨⟨hsi0, hsi1⟩, _⟩ := hsi
          have hsi2 : (Cf.spots (g.ts.getD t.toNat E.Tm.z).q).getD i 0 < (g.l.length : Int) := hsi1
          refine E.CW.region ?_
          refine E.OW.pure rfl rfl rfl (E.PV.move rfl rfl) ?_
          refine E.OW.pure rfl rfl rfl (E.PV.move rfl rfl) ?_
          refine E.OW.pure rfl rfl rfl (E.PV.indexAddrA Try.underlying89 in4 rfl rfl rfl (E.tn ?_) ?_) ?_; (focus (omega)); (focus (omega))
          refine E.OW.store_bl (i := 0) in4.size rfl rfl rfl rfl rfl rfl ?_ ?_; (focus (omega))
          refine E.OW.nil ?_
          refine E.blk_n ?_
          refine E.then_n ?_
          refine E.CW.region ?_
          refine E.OW.pure rfl rfl rfl (E.PV.add_i64 rfl rfl rfl ?_) ?_; (focus (omega))
          refine E.OW.pure rfl rfl rfl (E.PV.move rfl rfl) ?_
          refine E.OW.nil ?_
          refine E.then_nf ?_
          refine ⟨_, [(45, _)], [0, 0, 0, 0, 0, 0, 0, 0, 0], [_], ?_, by repeat (first | exact E.cov_nil | refine ⟨rfl, ?_⟩), rfl, i + 1, rfl, rfl, (by rw [E.inl_take (by omega) (by omega)]), by omega⟩
          omega)
      · simp only [E.b0, E.b1, E.b2, E.b3, E.b4, E.b5, E.b6, E.b7, E.b8, E.b9, E.b10, E.b11, E.b12, E.b13, E.b14, E.b15, E.b16, E.b17, E.b18, E.b19, E.b20, reduceCtorEq] at hc
        all_goals (
          refine E.CW.exit ?_
          refine E.then_x ?_
          refine E.then_x ?_
          refine E.blk_eq ?_
          refine E.then_n ?_
          refine E.CW.cut [1, 3, 5, 7, 8, 9, 9999] 0 rfl rfl (fun mods Hm => ∃ Ao : Option Addr, ∃ Ai : Option Addr, mods = [(12, .slice Ao g.l.length g.l.length), (13, .slice Ai g.l.length g.l.length)] ∧ Hm = [E.HP.row 4 1 Ao g.l.length g.l.length (E.bls g.l.length (fun _ => false)), E.HP.row 4 1 Ai g.l.length g.l.length (E.bls g.l.length (fun _ => false))] ∧ True) ?_ ?_
          · skip
            refine E.CW.drawx mixed [] rfl ?_
            all_goals (refine E.AW.first 0 rfl (by kernel_rfl) (by kernel_rfl) (by kernel_rfl) rfl rfl rfl (E.PV.move rfl rfl) ?_)
            all_goals (refine E.AW.first 2 rfl (by kernel_rfl) (by kernel_rfl) (by kernel_rfl) rfl rfl rfl (E.PV.move rfl rfl) ?_)
            all_goals (
              refine E.AW.two 1 3 (by kernel_rfl) rfl rfl ?ga7 ?gb7
              case' ga7 =>
                  all_goals (refine E.OW.make_bl _ Try.underlying89 in4 rfl rfl rfl rfl rfl rfl rfl ?_ ?_ (fun A29 => ?_); (focus (unfold maxLen; omega)); (focus (omega)))
                  all_goals (refine E.AW.nil [] rfl ?_)
                  all_goals (refine E.AW.first 4 rfl (by kernel_rfl) (by kernel_rfl) (by kernel_rfl) rfl rfl rfl (E.PV.assign rfl rfl) ?_)
                  all_goals (refine E.AW.one 3 (by kernel_rfl) rfl ?_)
                  all_goals (refine E.OW.make_bl _ Try.underlying89 in4 rfl rfl rfl rfl rfl rfl rfl ?_ ?_ (fun A30 => ?_); (focus (unfold maxLen; omega)); (focus (omega)))
                  all_goals (refine E.AW.nil [] rfl ?_)
                  all_goals (refine E.AW.first 5 rfl (by kernel_rfl) (by kernel_rfl) (by kernel_rfl) rfl rfl rfl (E.PV.assign rfl rfl) ?_)
                  all_goals (refine E.AW.done (by kernel_rfl) ?_)
              case' gb7 =>
                  all_goals (refine E.OW.make_bl _ Try.underlying89 in4 rfl rfl rfl rfl rfl rfl rfl ?_ ?_ (fun A31 => ?_); (focus (unfold maxLen; omega)); (focus (omega)))
                  all_goals (refine E.AW.nil [] rfl ?_)
                  all_goals (refine E.AW.one 1 (by kernel_rfl) rfl ?_)
                  all_goals (refine E.OW.make_bl _ Try.underlying89 in4 rfl rfl rfl rfl rfl rfl rfl ?_ ?_ (fun A32 => ?_); (focus (unfold maxLen; omega)); (focus (omega)))
                  all_goals (refine E.AW.nil [] rfl ?_)
                  all_goals (refine E.AW.first 4 rfl (by kernel_rfl) (by kernel_rfl) (by kernel_rfl) rfl rfl rfl (E.PV.assign rfl rfl) ?_)
                  all_goals (refine E.AW.first 5 rfl (by kernel_rfl) (by kernel_rfl) (by kernel_rfl) rfl rfl rfl (E.PV.assign rfl rfl) ?_)
                  all_goals (refine E.AW.done (by kernel_rfl) ?_))
            all_goals (
              skip
              refine E.then_nf ?_
              first | (refine ⟨[(12, _), (13, _)], [0, 0, 0, 0, 0, 0, 0, 0, 0, 0, 0], _, ?_, rfl, _, _, rfl, rfl, trivial⟩; focus (repeat (first | exact E.cov_nil | refine ⟨rfl, ?_⟩)); done) | (refine ⟨[(12, _), (13, _)], [1, 0, 0, 0, 0, 0, 0, 0, 0, 0, 0], _, ?_, rfl, _, _, rfl, rfl, trivial⟩; focus (repeat (first | exact E.cov_nil | refine ⟨rfl, ?_⟩)); done))
          · rintro _ _ ⟨Ao, Ai, rfl, rfl, hI⟩
            refine E.CW.seq ?_
            refine E.CW.seq ?_
            obtain rfl : i = (Cf.spots (g.ts.getD t.toNat E.Tm.z).q).length := by omega
            refine E.CW.conv (E.cv_chunk 2 (E.HP.row 4 1 (some ⟨QS, 0, .none⟩) g.l.length g.l.length (E.bls g.l.length (E.inl (Cf.spots (g.ts.getD t.toNat E.Tm.z).q)))) rfl (by rw [List.take_length])) ?_
            refine E.CW.sels [1, 1, 0, 0, 0, 0, 0, 0, 0, 0, 0] rfl ?_
            refine E.CW.row_some 0 rfl (by omega) (fun QO hQO => ?_)
            subst hQO
            refine E.CW.row_some 1 rfl (by omega) (fun QI hQI => ?_)
            subst hQI
            refine E.CW.conv (E.cv_nils 3 g.l.length) ?_
            refine E.CW.region ?_
            refine E.OW.pure rfl rfl rfl (E.PV.move rfl rfl) ?_
            refine E.OW.pure rfl rfl rfl (E.PV.move rfl rfl) ?_
            refine E.OW.nil ?_
            refine E.then_n ?_
            refine E.CW.block ?_
            refine E.CW.sels [1, 1, 5, 5, 0, 6, 0, 1, 1, 1, 1] rfl ?_
            refine E.CW.loopk [1, 3, 5, 7, 8, 9, 12, 13, 57] 6 rfl rfl (fun mm mods Hm => ∃ i : Nat, ∃ Xn : Nat → Option Addr, ∃ ln : Nat → Nat, ∃ un : Nat → Nat, ∃ xs : Nat → List Value, ∃ ds : List Nat, mm = g.l.length - i ∧ mods = [(58, .int .i64 i), (9999, E.marks ds)] ∧ Hm = [E.HP.row 4 1 (some ⟨QO, 0, .none⟩) g.l.length g.l.length (E.bls g.l.length (E.ltb i (fun j => Rt.mine g.q t (j : Int)))), E.HP.row 4 1 (some ⟨QI, 0, .none⟩) g.l.length g.l.length (E.bls g.l.length (E.ltb i (fun j => Rt.aisle g.q (j : Int)))), E.HP.row 4 1 (some ⟨QC, 0, .none⟩) g.l.length g.l.length (E.bls g.l.length (E.ltb i (fun j => Rt.has g.q t a b (j : Int)))), E.HP.row 31 1 (some ⟨QN, 0, .none⟩) g.l.length g.l.length (E.slc2 g.l.length Xn ln un), E.HP.rows 3 g.l.length Xn ln un xs, E.HP.marks ds] ∧ (i ≤ g.l.length ∧ E.NA (Rt.G g.q t a b) i Xn ln un xs)) (g.l.length) ?_ ?_
            · exact ⟨[(58, _), (9999, _)], (by repeat (first | exact E.cov_nil | refine ⟨rfl, ?_⟩)), 0, _, _, _, _, _, rfl, rfl, (by rw [← E.ltb_zero, ← E.ltb_zero, ← E.ltb_zero]), by omega, E.NA.start _⟩
            · rintro _ _ _ ⟨i, Xn, ln, un, xs, ds, rfl, rfl, rfl, hi, hNA⟩
              refine E.CW.seq ?_
              refine E.CW.region ?_
              refine E.OW.pure rfl rfl rfl (E.PV.lss rfl rfl rfl) ?_
              refine E.OW.nil ?_
              refine E.then_n ?_
              refine E.CW.seq ?_
              refine E.CW.cond rfl (fun hc => ?_) (fun hc => ?_)
              · simp only [E.b0, E.b1, E.b2, E.b3, E.b4, E.b5, E.b6, E.b7, E.b8, E.b9, E.b10, E.b11, E.b12, E.b13, E.b14, E.b15, E.b16, E.b17, E.b18, E.b19, E.b20, reduceCtorEq] at hc
                all_goals (
                  refine E.CW.skip ?_
                  refine E.then_n ?_
                  refine E.CW.seq ?_
                  refine E.CW.block ?_
                  refine E.CW.seq ?_
                  refine E.CW.region ?_
                  refine E.OW.pure rfl rfl rfl (E.PV.move rfl rfl) ?_
                  refine E.OW.alloc (in3.zr) rfl rfl rfl rfl rfl (fun B914 => ?_)
                  refine E.OW.store (i := 0) in3.size rfl rfl rfl rfl rfl rfl rfl rfl rfl ?_
                  refine E.OW.nil ?_
                  refine E.then_n ?_
                  refine E.CW.seq ?_
                  refine E.CW.region ?_
                  refine E.OW.pure rfl rfl rfl (E.PV.loads (i := 11) is28 rfl rfl rfl rfl) ?_
                  refine E.OW.pure rfl rfl rfl (E.PV.load (i := 0) na3 rfl rfl rfl rfl) ?_
                  (refine E.OW.call nm99 rfl rfl rfl rfl rfl rfl _ (fun w hw => Ow_ok _ _ w ?_ ?_) ?_; (focus (refine hw.rdC ?_; assumption)); (focus (assumption)); rintro _ _ ⟨rfl, rfl⟩)
                  refine E.OW.pure rfl rfl rfl (E.PV.assign rfl rfl) ?_
                  refine E.OW.nil ?_
                  refine E.then_n ?_
                  refine E.CW.seq ?_
                  refine E.CW.drawx mixed [0] rfl ?_
                  all_goals (refine E.AW.first 0 rfl (by kernel_rfl) (by kernel_rfl) (by kernel_rfl) rfl rfl rfl (E.PV.move rfl rfl) ?_)
                  all_goals (refine E.AW.first 1 rfl (by kernel_rfl) (by kernel_rfl) (by kernel_rfl) rfl rfl rfl (E.PV.load (i := 0) na3 rfl rfl rfl rfl) ?_)
                  all_goals (refine E.AW.first 2 rfl (by kernel_rfl) (by kernel_rfl) (by kernel_rfl) rfl rfl rfl (E.PV.move rfl rfl) ?_)
                  all_goals (refine E.AW.first 3 rfl (by kernel_rfl) (by kernel_rfl) (by kernel_rfl) rfl rfl rfl (E.PV.load (i := 0) na3 rfl rfl rfl rfl) ?_)
                  all_goals (refine E.AW.first 4 rfl (by kernel_rfl) (by kernel_rfl) (by kernel_rfl) rfl rfl rfl (E.PV.move rfl rfl) ?_)
                  all_goals (refine E.AW.first 5 rfl (by kernel_rfl) (by kernel_rfl) (by kernel_rfl) rfl rfl rfl (E.PV.move rfl rfl) ?_)
                  all_goals (refine E.AW.first 6 rfl (by kernel_rfl) (by kernel_rfl) (by kernel_rfl) rfl rfl rfl (E.PV.eql rfl rfl rfl) ?_)
                  all_goals (refine E.AW.first 7 rfl (by kernel_rfl) (by kernel_rfl) (by kernel_rfl) rfl rfl rfl (E.PV.move rfl rfl) ?_)
                  all_goals (refine E.AW.first 8 rfl (by kernel_rfl) (by kernel_rfl) (by kernel_rfl) rfl rfl rfl (E.PV.eql rfl rfl rfl) ?_)
                  all_goals (refine E.AW.first 9 rfl (by kernel_rfl) (by kernel_rfl) (by kernel_rfl) rfl rfl rfl (E.PV.indexAddrA Try.underlying89 in4 rfl rfl rfl rfl ?_) ?_; (focus (omega)))
                  all_goals (refine E.AW.one 10 (by kernel_rfl) rfl ?_)
                  all_goals (refine E.OW.store_bl (i := 1) in4.size rfl rfl rfl rfl rfl rfl ?_ ?_; (focus (omega)))
                  all_goals (first | (refine E.AW.nil [0] rfl ?_) | (refine E.AW.nil [1] rfl ?_) | (refine E.AW.nil [2] rfl ?_) | (refine E.AW.nil [3] rfl ?_) | (refine E.AW.nil [4] rfl ?_) | (refine E.AW.nil [5] rfl ?_) | (refine E.AW.nil [6] rfl ?_) | (refine E.AW.nil [0] rfl ?_) | (refine E.AW.nil [0] rfl ?_))
                  all_goals (refine E.AW.first 11 rfl (by kernel_rfl) (by kernel_rfl) (by kernel_rfl) rfl rfl rfl (E.PV.indexAddrA Try.underlying89 in4 rfl rfl rfl rfl ?_) ?_; (focus (omega)))
                  all_goals (refine E.AW.one 12 (by kernel_rfl) rfl ?_)
                  all_goals (refine E.OW.store_bl (i := 2) in4.size rfl rfl rfl rfl rfl rfl ?_ ?_; (focus (omega)))
                  all_goals (first | (refine E.AW.nil [0] rfl ?_) | (refine E.AW.nil [1] rfl ?_) | (refine E.AW.nil [2] rfl ?_) | (refine E.AW.nil [3] rfl ?_) | (refine E.AW.nil [4] rfl ?_) | (refine E.AW.nil [5] rfl ?_) | (refine E.AW.nil [6] rfl ?_) | (refine E.AW.nil [0] rfl ?_) | (refine E.AW.nil [0] rfl ?_))
                  all_goals (refine E.AW.conv (E.cv_chunk 0 (E.HP.row 4 1 (some ⟨QI, 0, .none⟩) g.l.length g.l.length (E.bls g.l.length (E.ltb (i + 1) (fun j => Rt.aisle g.q (j : Int))))) rfl (congrArg (fun r => E.HP.row 4 1 (some ⟨QI, 0, .none⟩) g.l.length g.l.length (r)) (E.ltb_set rfl))) ?_)
                  all_goals (refine E.AW.conv (E.cv_chunk 1 (E.HP.row 4 1 (some ⟨QO, 0, .none⟩) g.l.length g.l.length (E.bls g.l.length (E.ltb (i + 1) (fun j => Rt.mine g.q t (j : Int))))) rfl (congrArg (fun r => E.HP.row 4 1 (some ⟨QO, 0, .none⟩) g.l.length g.l.length (r)) (E.ltb_set rfl))) ?_)
                  all_goals (refine E.AW.sels [3, 2, 0, 0, 0, 0, 0, 0, 0, 0, 0, 0] rfl ?_)
                  all_goals (refine E.AW.done (by kernel_rfl) ?_)
                  all_goals (
                    skip
                    refine E.then_n ?_
                    refine E.CW.cut [1, 3, 5, 7, 8, 9, 12, 13, 14, 57, 58, 9999] 1 rfl rfl (fun mods Hm =>  mods = [] ∧ Hm = [E.HP.row 4 1 (some ⟨QC, 0, .none⟩) g.l.length g.l.length (E.bls g.l.length (E.ltb (i + 1) (fun j => Rt.has g.q t a b (j : Int))))] ∧ True) ?_ ?_
                    · skip
                      refine E.CW.drawx mixed [1, 1, 1, 1, 1, 1, 1, 1, 1, 1, 1] rfl ?_
                      all_goals (refine E.AW.first 0 rfl (by kernel_rfl) (by kernel_rfl) (by kernel_rfl) rfl rfl rfl (E.PV.load (i := 7) na87 rfl rfl rfl rfl) ?_)
                      all_goals (refine E.AW.first 1 rfl (by kernel_rfl) (by kernel_rfl) (by kernel_rfl) rfl rfl rfl (E.PV.nilCheck rfl rfl) ?_)
                      all_goals (refine E.AW.first 2 rfl (by kernel_rfl) (by kernel_rfl) (by kernel_rfl) rfl rfl rfl (E.PV.fieldAddr fa93_1 rfl rfl) ?_)
                      all_goals (refine E.AW.first 3 rfl (by kernel_rfl) (by kernel_rfl) (by kernel_rfl) rfl rfl rfl (E.PV.load (i := 8) na89 rfl rfl rfl rfl) ?_)
                      all_goals (refine E.AW.first 4 rfl (by kernel_rfl) (by kernel_rfl) (by kernel_rfl) rfl rfl rfl (E.PV.load (i := 0) na3 rfl rfl rfl rfl) ?_)
                      all_goals (refine E.AW.first 5 rfl (by kernel_rfl) (by kernel_rfl) (by kernel_rfl) rfl rfl rfl (E.PV.load (i := 0) na3 rfl rfl rfl rfl) ?_)
                      all_goals (refine E.AW.first 6 rfl (by kernel_rfl) (by kernel_rfl) (by kernel_rfl) rfl rfl rfl (E.PV.fieldAddr fa30_0 rfl rfl) ?_)
                      all_goals (refine E.AW.first 7 rfl (by kernel_rfl) (by kernel_rfl) (by kernel_rfl) rfl rfl rfl (E.PV.load (i := 9) na3 rfl rfl rfl rfl) ?_)
                      all_goals (refine E.AW.first 8 rfl (by kernel_rfl) (by kernel_rfl) (by kernel_rfl) rfl rfl rfl (E.PV.eql rfl rfl rfl) ?_)
                      all_goals (refine E.AW.first 9 rfl (by kernel_rfl) (by kernel_rfl) (by kernel_rfl) rfl rfl rfl (E.PV.move rfl rfl) ?_)
                      all_goals (refine E.AW.split 84 rfl (fun hc => ?_) (fun hc => ?_) <;> (try simp only [E.b0, E.b1, E.b2, E.b3, E.b4, E.b5, E.b6, E.b7, E.b8, E.b9, E.b10, E.b11, E.b12, E.b13, E.b14, E.b15, E.b16, E.b17, E.b18, E.b19, E.b20, reduceCtorEq] at hc) <;> (try (exfalso; first | assumption | contradiction | omega)))
                      all_goals (first | (refine E.AW.first_off 10 rfl (by kernel_rfl) (by kernel_rfl) (by kernel_rfl) rfl rfl rfl ?_) | (refine E.AW.first 10 rfl (by kernel_rfl) (by kernel_rfl) (by kernel_rfl) rfl rfl rfl (E.PV.load (i := 0) na3 rfl rfl rfl rfl) ?_))
                      all_goals (first | (refine E.AW.first_off 11 rfl (by kernel_rfl) (by kernel_rfl) (by kernel_rfl) rfl rfl rfl ?_) | (refine E.AW.first 11 rfl (by kernel_rfl) (by kernel_rfl) (by kernel_rfl) rfl rfl rfl (E.PV.fieldAddr fa30_1 rfl rfl) ?_))
                      all_goals (first | (refine E.AW.first_off 12 rfl (by kernel_rfl) (by kernel_rfl) (by kernel_rfl) rfl rfl rfl ?_) | (refine E.AW.first 12 rfl (by kernel_rfl) (by kernel_rfl) (by kernel_rfl) rfl rfl rfl (E.PV.load (i := 9) na3 rfl rfl rfl rfl) ?_))
                      all_goals (first | (refine E.AW.first_off 13 rfl (by kernel_rfl) (by kernel_rfl) (by kernel_rfl) rfl rfl rfl ?_) | (refine E.AW.first 13 rfl (by kernel_rfl) (by kernel_rfl) (by kernel_rfl) rfl rfl rfl (E.PV.eql rfl rfl rfl) ?_))
                      all_goals (first | (refine E.AW.first 14 rfl (by kernel_rfl) (by kernel_rfl) (by kernel_rfl) rfl rfl rfl (E.PV.pick_t rfl rfl rfl) ?_) | (refine E.AW.first 14 rfl (by kernel_rfl) (by kernel_rfl) (by kernel_rfl) rfl rfl rfl (E.PV.pick_f rfl rfl rfl) ?_))
                      all_goals (refine E.AW.first 15 rfl (by kernel_rfl) (by kernel_rfl) (by kernel_rfl) rfl rfl rfl (E.PV.move rfl rfl) ?_)
                      all_goals (first | (refine E.AW.put 90 (.bool true) (v := .bool true) rfl rfl ?_) | (refine E.AW.split 90 rfl (fun hc => ?_) (fun hc => ?_) <;> (try simp only [E.b0, E.b1, E.b2, E.b3, E.b4, E.b5, E.b6, E.b7, E.b8, E.b9, E.b10, E.b11, E.b12, E.b13, E.b14, E.b15, E.b16, E.b17, E.b18, E.b19, E.b20, reduceCtorEq] at hc) <;> (try (exfalso; first | assumption | contradiction | omega))))
                      all_goals (first | (refine E.AW.first_off 16 rfl (by kernel_rfl) (by kernel_rfl) (by kernel_rfl) rfl rfl rfl ?_) | (refine E.AW.first 16 rfl (by kernel_rfl) (by kernel_rfl) (by kernel_rfl) rfl rfl rfl (E.PV.move rfl rfl) ?_))
                      all_goals (first | (refine E.AW.first_off 17 rfl (by kernel_rfl) (by kernel_rfl) (by kernel_rfl) rfl rfl rfl ?_) | (refine E.AW.first 17 rfl (by kernel_rfl) (by kernel_rfl) (by kernel_rfl) rfl rfl rfl (E.PV.load (i := 0) na3 rfl rfl rfl rfl) ?_))
                      all_goals (first | (refine E.AW.first_off 18 rfl (by kernel_rfl) (by kernel_rfl) (by kernel_rfl) rfl rfl rfl ?_) | (refine E.AW.first 18 rfl (by kernel_rfl) (by kernel_rfl) (by kernel_rfl) rfl rfl rfl (E.PV.indexAddrA Try.underlying89 in4 rfl rfl rfl rfl ?_) ?_; (focus (omega))))
                      all_goals (first | (refine E.AW.first_off 19 rfl (by kernel_rfl) (by kernel_rfl) (by kernel_rfl) rfl rfl rfl ?_) | (refine E.AW.first 19 rfl (by kernel_rfl) (by kernel_rfl) (by kernel_rfl) rfl rfl rfl (E.PV.load_bl (E.rdr (i := 2) rfl) na4 rfl rfl ?_) ?_; (focus (omega))))
                      all_goals (first | (refine E.AW.first 20 rfl (by kernel_rfl) (by kernel_rfl) (by kernel_rfl) rfl rfl rfl (E.PV.pick_t rfl rfl rfl) ?_) | (refine E.AW.first 20 rfl (by kernel_rfl) (by kernel_rfl) (by kernel_rfl) rfl rfl rfl (E.PV.pick_f rfl rfl rfl) ?_))
                      all_goals (refine E.AW.first 21 rfl (by kernel_rfl) (by kernel_rfl) (by kernel_rfl) rfl rfl rfl (E.PV.move rfl rfl) ?_)
                      all_goals (first | (refine E.AW.put 96 (.bool true) (v := .bool true) rfl rfl ?_) | (refine E.AW.split 96 rfl (fun hc => ?_) (fun hc => ?_) <;> (try simp only [E.b0, E.b1, E.b2, E.b3, E.b4, E.b5, E.b6, E.b7, E.b8, E.b9, E.b10, E.b11, E.b12, E.b13, E.b14, E.b15, E.b16, E.b17, E.b18, E.b19, E.b20, reduceCtorEq] at hc) <;> (try (exfalso; first | assumption | contradiction | omega))))
                      all_goals (first | (refine E.AW.first_off 22 rfl (by kernel_rfl) (by kernel_rfl) (by kernel_rfl) rfl rfl rfl ?_) | (refine E.AW.first 22 rfl (by kernel_rfl) (by kernel_rfl) (by kernel_rfl) rfl rfl rfl (E.PV.move rfl rfl) ?_))
                      all_goals (first | (refine E.AW.first_off 23 rfl (by kernel_rfl) (by kernel_rfl) (by kernel_rfl) rfl rfl rfl ?_) | (refine E.AW.first 23 rfl (by kernel_rfl) (by kernel_rfl) (by kernel_rfl) rfl rfl rfl (E.PV.load (i := 0) na3 rfl rfl rfl rfl) ?_))
                      all_goals (first | (refine E.AW.first_off 24 rfl (by kernel_rfl) (by kernel_rfl) (by kernel_rfl) rfl rfl rfl ?_) | (refine E.AW.first 24 rfl (by kernel_rfl) (by kernel_rfl) (by kernel_rfl) rfl rfl rfl (E.PV.indexAddrA Try.underlying89 in4 rfl rfl rfl rfl ?_) ?_; (focus (omega))))
                      all_goals (first | (refine E.AW.first_off 25 rfl (by kernel_rfl) (by kernel_rfl) (by kernel_rfl) rfl rfl rfl ?_) | (refine E.AW.first 25 rfl (by kernel_rfl) (by kernel_rfl) (by kernel_rfl) rfl rfl rfl (E.PV.load_bl (E.rdr (i := 1) rfl) na4 rfl rfl ?_) ?_; (focus (omega))))
                      all_goals (first | (refine E.AW.first_off 26 rfl (by kernel_rfl) (by kernel_rfl) (by kernel_rfl) rfl rfl rfl ?_) | (refine E.AW.first 26 rfl (by kernel_rfl) (by kernel_rfl) (by kernel_rfl) rfl rfl rfl (E.PV.move rfl rfl) ?_))
                      all_goals (first | (refine E.AW.put 101 (.tuple #[]) (v := .tuple #[]) rfl rfl ?_) | (refine E.AW.split 101 rfl (fun hc => ?_) (fun hc => ?_) <;> (try simp only [E.b0, E.b1, E.b2, E.b3, E.b4, E.b5, E.b6, E.b7, E.b8, E.b9, E.b10, E.b11, E.b12, E.b13, E.b14, E.b15, E.b16, E.b17, E.b18, E.b19, E.b20, reduceCtorEq] at hc) <;> (try (exfalso; first | assumption | contradiction | omega))))
                      all_goals (first | (refine E.AW.first_off 27 rfl (by kernel_rfl) (by kernel_rfl) (by kernel_rfl) rfl rfl rfl ?_) | (refine E.AW.first 27 rfl (by kernel_rfl) (by kernel_rfl) (by kernel_rfl) rfl rfl rfl (E.PV.move rfl rfl) ?_))
                      all_goals (first | (refine E.AW.first_off 28 rfl (by kernel_rfl) (by kernel_rfl) (by kernel_rfl) rfl rfl rfl ?_) | (refine E.AW.first 28 rfl (by kernel_rfl) (by kernel_rfl) (by kernel_rfl) rfl rfl rfl (E.PV.load (i := 0) na3 rfl rfl rfl rfl) ?_))
                      all_goals (first | (refine E.AW.first_off 29 rfl (by kernel_rfl) (by kernel_rfl) (by kernel_rfl) rfl rfl rfl ?_) | (refine E.AW.first 29 rfl (by kernel_rfl) (by kernel_rfl) (by kernel_rfl) rfl rfl rfl (E.PV.indexAddrA Try.underlying89 in4 rfl rfl rfl rfl ?_) ?_; (focus (omega))))
                      all_goals (first | (refine E.AW.first_off 30 rfl (by kernel_rfl) (by kernel_rfl) (by kernel_rfl) rfl rfl rfl ?_) | (refine E.AW.first 30 rfl (by kernel_rfl) (by kernel_rfl) (by kernel_rfl) rfl rfl rfl (E.PV.load_bl (E.rdr (i := 6) rfl) na4 rfl rfl ?_) ?_; (focus (omega))))
                      all_goals (first | (refine E.AW.first_off 31 rfl (by kernel_rfl) (by kernel_rfl) (by kernel_rfl) rfl rfl rfl ?_) | (refine E.AW.first 31 rfl (by kernel_rfl) (by kernel_rfl) (by kernel_rfl) rfl rfl rfl (E.PV.not rfl rfl) ?_))
                      all_goals (first | (refine E.AW.first_off 32 rfl (by kernel_rfl) (by kernel_rfl) (by kernel_rfl) rfl rfl rfl ?_) | (first | (refine E.AW.first 32 rfl (by kernel_rfl) (by kernel_rfl) (by kernel_rfl) rfl rfl rfl (E.PV.pick_t rfl rfl rfl) ?_) | (refine E.AW.first 32 rfl (by kernel_rfl) (by kernel_rfl) (by kernel_rfl) rfl rfl rfl (E.PV.pick_f rfl rfl rfl) ?_)))
                      all_goals (first | (refine E.AW.first 33 rfl (by kernel_rfl) (by kernel_rfl) (by kernel_rfl) rfl rfl rfl (E.PV.pick_t rfl rfl rfl) ?_) | (refine E.AW.first 33 rfl (by kernel_rfl) (by kernel_rfl) (by kernel_rfl) rfl rfl rfl (E.PV.pick_f rfl rfl rfl) ?_))
                      all_goals (refine E.AW.first 34 rfl (by kernel_rfl) (by kernel_rfl) (by kernel_rfl) rfl rfl rfl (E.PV.indexAddrA Try.underlying89 in4 rfl rfl rfl rfl ?_) ?_; (focus (omega)))
                      all_goals (refine E.AW.one 35 (by kernel_rfl) rfl ?_)
                      all_goals (refine E.OW.store_bl (i := 0) in4.size rfl rfl rfl rfl rfl rfl ?_ ?_; (focus (omega)))
                      all_goals (first | (refine E.AW.nil [1, 1, 1, 1, 1, 1, 1, 1, 1, 1, 1] rfl ?_) | (refine E.AW.nil [2, 2, 2, 2, 2, 2, 2, 2, 2, 2, 2] rfl ?_) | (refine E.AW.nil [3, 3, 3, 3, 3, 3, 3, 3, 3, 3, 3] rfl ?_) | (refine E.AW.nil [4, 4, 4, 4, 4, 4, 4, 4, 4, 4, 4] rfl ?_) | (refine E.AW.nil [5, 5, 5, 5, 5, 5, 5, 5, 5, 5, 5] rfl ?_) | (refine E.AW.nil [6, 6, 6, 6, 6, 6, 6, 6, 6, 6, 6] rfl ?_) | (refine E.AW.nil [7, 7, 7, 7, 7, 7, 7, 7, 7, 7, 7] rfl ?_) | (refine E.AW.nil [0, 0, 0, 0, 0, 0, 0, 0, 0, 0, 0] rfl ?_) | (refine E.AW.nil [0, 0, 0, 0, 0, 0, 0, 0, 0, 0, 0] rfl ?_))
                      all_goals (refine E.AW.done (by kernel_rfl) ?_)
                      all_goals (
                        skip
                        refine E.then_nf ?_
                        refine ⟨[], [0, 0, 0, 0, 0, 0, 0, 0, 0, 0, 0, 0], [_], by repeat (first | exact E.cov_nil | refine ⟨rfl, ?_⟩), rfl, rfl, congrArg (fun r => [E.HP.row 4 1 (some ⟨QC, 0, .none⟩) g.l.length g.l.length (r)]) (E.ltb_set (by first | rfl | ((try simp only [E.ltb_at] at *); unfold Rt.has; simp_all [E.inl]))), trivial⟩)
                    · rintro _ _ ⟨rfl, rfl, hI⟩
                      refine E.CW.seq ?_
                      refine E.CW.region ?_
                      refine E.OW.pure rfl rfl rfl (E.PV.fieldAddr fa28_0 rfl rfl) ?_
                      refine E.OW.pure rfl rfl rfl (E.PV.loads (i := 11) is24 rfl rfl rfl rfl) ?_
                      refine E.OW.pure rfl rfl rfl (E.PV.load (i := 1) na3 rfl rfl rfl rfl) ?_
                      (refine E.OW.call nm101 rfl rfl rfl rfl rfl rfl _ (fun w hw => Ar_ok _ _ _ _ _ _ w) ?_; rintro _ _ ⟨Bp, Bf, rfl, rfl⟩)
                      refine E.OW.nil ?_
                      refine E.then_n ?_
                      refine E.CW.block ?_
                      refine E.CW.conv (E.cv_nbin [10, 3, 9, 5, 5, 0, 0, 0, 0, 0, 0, 0, 0, 0] rfl hNA) ?_
                      have hhas := Rt.has_at hL.c (show i < g.l.length by omega)
                      refine E.CW.range (p := E.HP.nb B8 PB B914 g.l.length (some ⟨QN, 0, .none⟩) [.int .i64 (g.s.length : Int), .slice (some ⟨QC, 0, .none⟩) g.l.length g.l.length, .slice none 0 0, .slice none 0 0, .slice (some ⟨QN, 0, .none⟩) g.l.length g.l.length] i Xn ln un xs) (xs := Rt.nearI g.a g.b (i : Int)) (ds := ds) [8, 14] rfl rfl rfl rfl rfl nm126 rfl rfl 0 5 rfl rfl ?_ ?_ ?_
                      · intro w S L q hw hY hS hb hc
                        exact ArI_ok g.a g.b (i : Int) _ Bp Bf L q S w hhas hY hS (fun k hk => (hb k hk).1) (E.blk_in hc (i := 0) rfl) (E.blk_in hc (i := 1) rfl)
                      · intro L pre x rest hxs
                        have hpl := Rt.near_pre hxs
                        refine ⟨[(16, .int .i64 x), (8, .pointer (some ⟨B8, 0, none⟩)), (14, .pointer (some ⟨B914, 0, none⟩))], fun W F9 => ?_, fun W F9 => ?_⟩
                        · skip
                          refine E.CW.region ?_
                          refine E.OW.pure rfl rfl rfl (E.PV.assign rfl rfl) ?_
                          refine E.OW.nil ?_
                          exact ⟨rfl, (by repeat (first | exact E.cov_nil | refine ⟨rfl, ?_⟩)), rfl⟩
                        · skip
                          refine E.CW.nbout rfl (by omega) (fun AR uR => ?_)
                          refine E.CW.block ?_
                          refine E.CW.drawx mixed [2, 2, 2] rfl ?_
                          all_goals (refine E.AW.first 0 rfl (by kernel_rfl) (by kernel_rfl) (by kernel_rfl) rfl rfl rfl (E.PV.load (i := 0) na87 rfl rfl rfl rfl) ?_)
                          all_goals (refine E.AW.first 1 rfl (by kernel_rfl) (by kernel_rfl) (by kernel_rfl) rfl rfl rfl (E.PV.nilCheck rfl rfl) ?_)
                          all_goals (refine E.AW.first 2 rfl (by kernel_rfl) (by kernel_rfl) (by kernel_rfl) rfl rfl rfl (E.PV.fieldAddr fa93_4 rfl rfl) ?_)
                          all_goals (refine E.AW.first 3 rfl (by kernel_rfl) (by kernel_rfl) (by kernel_rfl) rfl rfl rfl (E.PV.load (i := 2) na91 rfl rfl rfl rfl) ?_)
                          all_goals (refine E.AW.first 4 rfl (by kernel_rfl) (by kernel_rfl) (by kernel_rfl) rfl rfl rfl (E.PV.load (i := 1) na3 rfl rfl rfl rfl) ?_)
                          all_goals (refine E.AW.first 5 rfl (by kernel_rfl) (by kernel_rfl) (by kernel_rfl) rfl rfl rfl (E.PV.load (i := 0) na87 rfl rfl rfl rfl) ?_)
                          all_goals (refine E.AW.first 6 rfl (by kernel_rfl) (by kernel_rfl) (by kernel_rfl) rfl rfl rfl (E.PV.nilCheck rfl rfl) ?_)
                          all_goals (refine E.AW.first 7 rfl (by kernel_rfl) (by kernel_rfl) (by kernel_rfl) rfl rfl rfl (E.PV.fieldAddr fa93_4 rfl rfl) ?_)
                          all_goals (refine E.AW.first 8 rfl (by kernel_rfl) (by kernel_rfl) (by kernel_rfl) rfl rfl rfl (E.PV.load (i := 2) na91 rfl rfl rfl rfl) ?_)
                          all_goals (refine E.AW.first 9 rfl (by kernel_rfl) (by kernel_rfl) (by kernel_rfl) rfl rfl rfl (E.PV.load (i := 1) na3 rfl rfl rfl rfl) ?_)
                          all_goals (refine E.AW.first 10 rfl (by kernel_rfl) (by kernel_rfl) (by kernel_rfl) rfl rfl rfl (E.PV.indexAddrA Try.underlying91 in31 rfl rfl rfl rfl ?_) ?_; (focus (omega)))
                          all_goals (refine E.AW.first 12 rfl (by kernel_rfl) (by kernel_rfl) (by kernel_rfl) rfl rfl rfl (E.PV.move rfl rfl) ?_)
                          all_goals (
                            refine E.AW.two 11 13 (by kernel_rfl) rfl rfl ?ga8 ?gb8
                            case' ga8 =>
                                all_goals (refine E.OW.pure rfl rfl rfl (E.PV.load_s2 (E.rdr (i := 5) rfl) na31 rfl rfl ?_) ?_; (focus (omega)))
                                all_goals (first | (refine E.AW.nil [2, 2, 2] rfl ?_) | (refine E.AW.nil [3, 3, 3] rfl ?_) | (refine E.AW.nil [4, 4, 4] rfl ?_) | (refine E.AW.nil [5, 5, 5] rfl ?_) | (refine E.AW.nil [6, 6, 6] rfl ?_) | (refine E.AW.nil [7, 7, 7] rfl ?_) | (refine E.AW.nil [8, 8, 8] rfl ?_) | (refine E.AW.nil [1, 1, 1] rfl ?_) | (refine E.AW.nil [0, 0, 0] rfl ?_))
                                all_goals (refine E.AW.one 13 (by kernel_rfl) rfl ?_)
                                all_goals (refine E.OW.buildSlice (Et := 3) (sz := 1) (ps := [(0, .tmp 127)]) rfl rfl rfl rfl rfl (by simp) (by unfold maxLen; omega) (fun w => bsl31_1_0 _ w) (fun A34 => ?_))
                                all_goals (first | (refine E.AW.nil [2, 2, 2] rfl ?_) | (refine E.AW.nil [3, 3, 3] rfl ?_) | (refine E.AW.nil [4, 4, 4] rfl ?_) | (refine E.AW.nil [5, 5, 5] rfl ?_) | (refine E.AW.nil [6, 6, 6] rfl ?_) | (refine E.AW.nil [7, 7, 7] rfl ?_) | (refine E.AW.nil [8, 8, 8] rfl ?_) | (refine E.AW.nil [1, 1, 1] rfl ?_) | (refine E.AW.nil [0, 0, 0] rfl ?_))
                                all_goals (refine E.AW.put 126 (.slice AR pre.length uR) rfl (by simp only [E.up_same]) ?_)
                                all_goals (refine E.AW.one 14 (by kernel_rfl) rfl ?_)
                                all_goals (refine E.OW.app_int1 (j := 0) (i := 0) Try.underlying31 in3 rfl rfl rfl rfl rfl rfl rfl rfl rfl rfl ?_ (fun A35 c35 => ?_); (focus ((first | omega | (simp only [List.length_append, List.length_cons, List.length_nil] at *; omega) | (unfold maxLen at *; omega)))))
                                all_goals (first | (refine E.AW.nil [2, 2, 2] rfl ?_) | (refine E.AW.nil [3, 3, 3] rfl ?_) | (refine E.AW.nil [4, 4, 4] rfl ?_) | (refine E.AW.nil [5, 5, 5] rfl ?_) | (refine E.AW.nil [6, 6, 6] rfl ?_) | (refine E.AW.nil [7, 7, 7] rfl ?_) | (refine E.AW.nil [8, 8, 8] rfl ?_) | (refine E.AW.nil [1, 1, 1] rfl ?_) | (refine E.AW.nil [0, 0, 0] rfl ?_))
                                all_goals (refine E.AW.first 15 rfl (by kernel_rfl) (by kernel_rfl) (by kernel_rfl) rfl rfl rfl (E.PV.indexAddrA Try.underlying91 in31 rfl rfl rfl rfl ?_) ?_; (focus (omega)))
                                all_goals (refine E.AW.one 16 (by kernel_rfl) rfl ?_)
                                all_goals (refine E.OW.store_s2 (i := 5) in31.size rfl rfl rfl rfl rfl rfl ?_ ?_; (focus (omega)))
                                all_goals (first | (refine E.AW.nil [2, 2, 2] rfl ?_) | (refine E.AW.nil [3, 3, 3] rfl ?_) | (refine E.AW.nil [4, 4, 4] rfl ?_) | (refine E.AW.nil [5, 5, 5] rfl ?_) | (refine E.AW.nil [6, 6, 6] rfl ?_) | (refine E.AW.nil [7, 7, 7] rfl ?_) | (refine E.AW.nil [8, 8, 8] rfl ?_) | (refine E.AW.nil [1, 1, 1] rfl ?_) | (refine E.AW.nil [0, 0, 0] rfl ?_))
                                all_goals (refine E.AW.conv (E.cv_nbback (post := pre ++ [x]) [1, 1, 1, 1, 1, 0] (by omega) rfl rfl rfl) ?_)
                                all_goals (refine E.AW.done (by kernel_rfl) ?_)
                            case' gb8 =>
                                all_goals (refine E.OW.buildSlice (Et := 3) (sz := 1) (ps := [(0, .tmp 127)]) rfl rfl rfl rfl rfl (by simp) (by unfold maxLen; omega) (fun w => bsl31_1_0 _ w) (fun A36 => ?_))
                                all_goals (first | (refine E.AW.nil [2, 2, 2] rfl ?_) | (refine E.AW.nil [3, 3, 3] rfl ?_) | (refine E.AW.nil [4, 4, 4] rfl ?_) | (refine E.AW.nil [5, 5, 5] rfl ?_) | (refine E.AW.nil [6, 6, 6] rfl ?_) | (refine E.AW.nil [7, 7, 7] rfl ?_) | (refine E.AW.nil [8, 8, 8] rfl ?_) | (refine E.AW.nil [1, 1, 1] rfl ?_) | (refine E.AW.nil [0, 0, 0] rfl ?_))
                                all_goals (refine E.AW.one 11 (by kernel_rfl) rfl ?_)
                                all_goals (refine E.OW.pure rfl rfl rfl (E.PV.load_s2 (E.rdr (i := 6) rfl) na31 rfl rfl ?_) ?_; (focus (omega)))
                                all_goals (first | (refine E.AW.nil [2, 2, 2] rfl ?_) | (refine E.AW.nil [3, 3, 3] rfl ?_) | (refine E.AW.nil [4, 4, 4] rfl ?_) | (refine E.AW.nil [5, 5, 5] rfl ?_) | (refine E.AW.nil [6, 6, 6] rfl ?_) | (refine E.AW.nil [7, 7, 7] rfl ?_) | (refine E.AW.nil [8, 8, 8] rfl ?_) | (refine E.AW.nil [1, 1, 1] rfl ?_) | (refine E.AW.nil [0, 0, 0] rfl ?_))
                                all_goals (refine E.AW.put 126 (.slice AR pre.length uR) rfl (by simp only [E.up_same]) ?_)
                                all_goals (refine E.AW.one 14 (by kernel_rfl) rfl ?_)
                                all_goals (refine E.OW.app_int1 (j := 0) (i := 0) Try.underlying31 in3 rfl rfl rfl rfl rfl rfl rfl rfl rfl rfl ?_ (fun A37 c37 => ?_); (focus ((first | omega | (simp only [List.length_append, List.length_cons, List.length_nil] at *; omega) | (unfold maxLen at *; omega)))))
                                all_goals (first | (refine E.AW.nil [2, 2, 2] rfl ?_) | (refine E.AW.nil [3, 3, 3] rfl ?_) | (refine E.AW.nil [4, 4, 4] rfl ?_) | (refine E.AW.nil [5, 5, 5] rfl ?_) | (refine E.AW.nil [6, 6, 6] rfl ?_) | (refine E.AW.nil [7, 7, 7] rfl ?_) | (refine E.AW.nil [8, 8, 8] rfl ?_) | (refine E.AW.nil [1, 1, 1] rfl ?_) | (refine E.AW.nil [0, 0, 0] rfl ?_))
                                all_goals (refine E.AW.first 15 rfl (by kernel_rfl) (by kernel_rfl) (by kernel_rfl) rfl rfl rfl (E.PV.indexAddrA Try.underlying91 in31 rfl rfl rfl rfl ?_) ?_; (focus (omega)))
                                all_goals (refine E.AW.one 16 (by kernel_rfl) rfl ?_)
                                all_goals (refine E.OW.store_s2 (i := 5) in31.size rfl rfl rfl rfl rfl rfl ?_ ?_; (focus (omega)))
                                all_goals (first | (refine E.AW.nil [2, 2, 2] rfl ?_) | (refine E.AW.nil [3, 3, 3] rfl ?_) | (refine E.AW.nil [4, 4, 4] rfl ?_) | (refine E.AW.nil [5, 5, 5] rfl ?_) | (refine E.AW.nil [6, 6, 6] rfl ?_) | (refine E.AW.nil [7, 7, 7] rfl ?_) | (refine E.AW.nil [8, 8, 8] rfl ?_) | (refine E.AW.nil [1, 1, 1] rfl ?_) | (refine E.AW.nil [0, 0, 0] rfl ?_))
                                all_goals (refine E.AW.conv (E.cv_nbback (post := pre ++ [x]) [1, 1, 1, 1, 1, 0] (by omega) rfl rfl rfl) ?_)
                                all_goals (refine E.AW.done (by kernel_rfl) ?_))
                          all_goals (
                            skip
                            refine E.blk_n ?_
                            exact ⟨rfl, [0], rfl⟩)
                      · intro DM
                        refine E.blk_n ?_
                        refine E.blk_n ?_
                        refine E.then_n ?_
                        refine E.CW.sels [1, 0, 0, 0, 0, 0, 0, 0, 0, 0] rfl ?_
                        refine E.CW.nbend rfl (fun AE uE => ?_)
                        have hnn : Rt.nearI g.a g.b (i : Int) = E.nn (Rt.G g.q t a b) i := (Rt.nn_near g.q i).symm
                        rw [hnn]
                        refine E.CW.region ?_
                        refine E.OW.pure rfl rfl rfl (E.PV.add_i64 rfl rfl rfl ?_) ?_; (focus (omega))
                        refine E.OW.pure rfl rfl rfl (E.PV.move rfl rfl) ?_
                        refine E.OW.nil ?_
                        refine E.then_nf ?_
                        refine ⟨_, [(58, _), (9999, _)], [9, 9, 8, 3, 3, 3, 5, 0, 1, 3, 3], [_, _, _, _, _, _], ?_, by repeat (first | exact E.cov_nil | refine ⟨rfl, ?_⟩), rfl, i + 1, _, _, _, _, _, rfl, rfl, rfl, by omega, hNA.next _ _⟩
                        omega))
              · simp only [E.b0, E.b1, E.b2, E.b3, E.b4, E.b5, E.b6, E.b7, E.b8, E.b9, E.b10, E.b11, E.b12, E.b13, E.b14, E.b15, E.b16, E.b17, E.b18, E.b19, E.b20, reduceCtorEq] at hc
                all_goals (
                  refine E.CW.exit ?_
                  refine E.then_x ?_
                  refine E.then_x ?_
                  refine E.blk_eq ?_
                  refine E.then_n ?_
                  refine E.CW.seq ?_
                  refine E.CW.seq ?_
                  obtain rfl : i = g.l.length := by omega
                  refine E.CW.conv (E.cv_chunk 2 (E.HP.row 4 1 (some ⟨QC, 0, .none⟩) g.l.length g.l.length (E.bls g.l.length ((fun j => Rt.has g.q t a b (j : Int))))) rfl (by rw [E.ltb_all])) ?_
                  refine E.CW.conv (E.cv_chunk 1 (E.HP.row 4 1 (some ⟨QO, 0, .none⟩) g.l.length g.l.length (E.bls g.l.length ((fun j => Rt.mine g.q t (j : Int))))) rfl (by rw [E.ltb_all])) ?_
                  refine E.CW.conv (E.cv_chunk 2 (E.HP.row 4 1 (some ⟨QI, 0, .none⟩) g.l.length g.l.length (E.bls g.l.length ((fun j => Rt.aisle g.q (j : Int))))) rfl (by rw [E.ltb_all])) ?_
                  refine E.CW.conv (E.cv_chunk 3 (E.HP.row 31 1 (some ⟨QN, 0, .none⟩) g.l.length g.l.length (E.slc2 g.l.length Xn (fun p => ((Rt.G g.q t a b).nr p).length) un)) rfl (by rw [E.slc2_congr fun j hj => ⟨rfl, (hNA.d j hj).1, rfl⟩])) ?_
                  refine E.CW.conv (E.cv_chunk 4 (E.HP.rows 3 g.l.length Xn (fun p => ((Rt.G g.q t a b).nr p).length) un (fun p => E.ints (E.nn (Rt.G g.q t a b) p))) rfl (E.rows_congr fun j hj => ⟨rfl, (hNA.d j hj).1, rfl, (hNA.d j hj).2⟩)) ?_
                  refine E.CW.nilrow 31 1 ?_
                  refine E.CW.rows_nil (Et := 3) (A := fun _ => none) (len := fun _ => g.l.length) (c := fun _ => 0) (xs := (fun (_ : Nat) => E.iis g.l.length fun _ => -1)) ?_
                  refine E.CW.nilrow 89 1 ?_
                  refine E.CW.rows_nil (Et := 4) (A := fun _ => none) (len := fun _ => g.l.length) (c := fun _ => 0) (xs := (fun (k : Nat) => E.bls g.l.length ((fun j => Rt.alw g.q t a b (k : Int) (j : Int))))) ?_
                  refine E.CW.region ?_
                  refine E.OW.pure rfl rfl rfl (E.PV.load (i := 11) na87 rfl rfl rfl rfl) ?_
                  refine E.OW.pure rfl rfl rfl (E.PV.nilCheck rfl rfl) ?_
                  refine E.OW.pure rfl rfl rfl (E.PV.fieldAddr fa93_0 rfl rfl) ?_
                  refine E.OW.pure rfl rfl rfl (E.PV.load (i := 12) na3 rfl rfl rfl rfl) ?_
                  refine E.OW.pure rfl rfl rfl (E.PV.move rfl rfl) ?_
                  refine E.OW.nil ?_
                  refine E.then_n ?_
                  refine E.CW.block ?_
                  refine E.CW.sels [12, 1, 0, 1, 0, 0, 0, 0, 0, 0, 0, 1, 1, 1] rfl ?_
                  refine E.CW.loopk [1, 3, 5, 7, 8, 12, 13, 135, 9999] 5 rfl rfl (fun mm mods Hm => ∃ k : Nat, ∃ Aa : Option Addr, ∃ ca : Nat, ∃ Xa : Nat → Option Addr, ∃ ua : Nat → Nat, ∃ Ad : Option Addr, ∃ cd : Nat, ∃ Xd : Nat → Option Addr, ∃ ud : Nat → Nat, mm = g.s.length - k ∧ mods = [(136, .int .i64 k)] ∧ Hm = [E.HP.blk PB 93 [.int .i64 (g.s.length : Int), .slice (some ⟨QC, 0, .none⟩) g.l.length g.l.length, .slice Aa k ca, .slice Ad k cd, .slice (some ⟨QN, 0, .none⟩) g.l.length g.l.length], E.HP.row 89 1 Aa (k) ca (E.slc2 (k) Xa (fun _ => g.l.length) ua), E.HP.rows 4 (k) Xa (fun _ => g.l.length) ua (fun (k : Nat) => E.bls g.l.length ((fun j => Rt.alw g.q t a b (k : Int) (j : Int)))), E.HP.row 31 1 Ad (k) cd (E.slc2 (k) Xd (fun _ => g.l.length) ud), E.HP.rows 3 (k) Xd (fun _ => g.l.length) ud (fun (_ : Nat) => E.iis g.l.length fun _ => -1)] ∧ k ≤ g.s.length) (g.s.length) ?_ ?_
                  · exact ⟨[(136, _)], (by repeat (first | exact E.cov_nil | refine ⟨rfl, ?_⟩)), 0, _, _, _, _, _, _, _, _, rfl, rfl, rfl, by omega⟩
                  · rintro _ _ _ ⟨k, Aa, ca, Xa, ua, Ad, cd, Xd, ud, rfl, rfl, rfl, hk⟩
                    refine E.CW.seq ?_
                    refine E.CW.region ?_
                    refine E.OW.pure rfl rfl rfl (E.PV.lss rfl rfl rfl) ?_
                    refine E.OW.nil ?_
                    refine E.then_n ?_
                    refine E.CW.seq ?_
                    refine E.CW.cond rfl (fun hc => ?_) (fun hc => ?_)
                    · simp only [E.b0, E.b1, E.b2, E.b3, E.b4, E.b5, E.b6, E.b7, E.b8, E.b9, E.b10, E.b11, E.b12, E.b13, E.b14, E.b15, E.b16, E.b17, E.b18, E.b19, E.b20, reduceCtorEq] at hc
                      all_goals (
                        refine E.CW.skip ?_
                        refine E.then_n ?_
                        refine E.CW.seq ?_
                        refine E.CW.block ?_
                        refine E.CW.seq ?_
                        refine E.CW.region ?_
                        refine E.OW.pure rfl rfl rfl (E.PV.move rfl rfl) ?_
                        refine E.OW.pure rfl rfl rfl (E.PV.assign rfl rfl) ?_
                        refine E.OW.nil ?_
                        refine E.then_n ?_
                        refine E.CW.cut [1, 3, 5, 7, 8, 12, 13, 17, 135, 136, 9999] 0 rfl rfl (fun mods Hm => ∃ Ar : Option Addr, ∃ Af : Option Addr, mods = [(18, .slice Ar g.l.length g.l.length), (19, .slice Af g.l.length g.l.length)] ∧ Hm = [E.HP.row 4 1 Ar g.l.length g.l.length (E.bls g.l.length (fun _ => false)), E.HP.row 3 1 Af g.l.length g.l.length (E.iis g.l.length fun _ => 0)] ∧ True) ?_ ?_
                        · skip
                          refine E.CW.drawx mixed [] rfl ?_
                          all_goals (refine E.AW.first 0 rfl (by kernel_rfl) (by kernel_rfl) (by kernel_rfl) rfl rfl rfl (E.PV.move rfl rfl) ?_)
                          all_goals (refine E.AW.first 2 rfl (by kernel_rfl) (by kernel_rfl) (by kernel_rfl) rfl rfl rfl (E.PV.move rfl rfl) ?_)
                          all_goals (
                            refine E.AW.two 1 3 (by kernel_rfl) rfl rfl ?ga9 ?gb9
                            case' ga9 =>
                                all_goals (refine E.OW.make_bl _ Try.underlying89 in4 rfl rfl rfl rfl rfl rfl rfl ?_ ?_ (fun A38 => ?_); (focus (unfold maxLen; omega)); (focus (omega)))
                                all_goals (refine E.AW.nil [] rfl ?_)
                                all_goals (refine E.AW.first 4 rfl (by kernel_rfl) (by kernel_rfl) (by kernel_rfl) rfl rfl rfl (E.PV.assign rfl rfl) ?_)
                                all_goals (refine E.AW.one 3 (by kernel_rfl) rfl ?_)
                                all_goals (refine E.OW.make_ii _ Try.underlying31 in3 rfl rfl rfl rfl rfl rfl rfl ?_ ?_ (fun A39 => ?_); (focus (unfold maxLen; omega)); (focus (omega)))
                                all_goals (refine E.AW.nil [] rfl ?_)
                                all_goals (refine E.AW.first 5 rfl (by kernel_rfl) (by kernel_rfl) (by kernel_rfl) rfl rfl rfl (E.PV.assign rfl rfl) ?_)
                                all_goals (refine E.AW.done (by kernel_rfl) ?_)
                            case' gb9 =>
                                all_goals (refine E.OW.make_ii _ Try.underlying31 in3 rfl rfl rfl rfl rfl rfl rfl ?_ ?_ (fun A40 => ?_); (focus (unfold maxLen; omega)); (focus (omega)))
                                all_goals (refine E.AW.nil [] rfl ?_)
                                all_goals (refine E.AW.one 1 (by kernel_rfl) rfl ?_)
                                all_goals (refine E.OW.make_bl _ Try.underlying89 in4 rfl rfl rfl rfl rfl rfl rfl ?_ ?_ (fun A41 => ?_); (focus (unfold maxLen; omega)); (focus (omega)))
                                all_goals (refine E.AW.nil [] rfl ?_)
                                all_goals (refine E.AW.first 4 rfl (by kernel_rfl) (by kernel_rfl) (by kernel_rfl) rfl rfl rfl (E.PV.assign rfl rfl) ?_)
                                all_goals (refine E.AW.first 5 rfl (by kernel_rfl) (by kernel_rfl) (by kernel_rfl) rfl rfl rfl (E.PV.assign rfl rfl) ?_)
                                all_goals (refine E.AW.done (by kernel_rfl) ?_))
                          all_goals (
                            skip
                            refine E.then_nf ?_
                            first | (refine ⟨[(18, _), (19, _)], [0, 0, 0, 0, 0, 0, 0, 0, 0, 0, 0, 0, 0, 0, 0, 0], _, ?_, rfl, _, _, rfl, rfl, trivial⟩; focus (repeat (first | exact E.cov_nil | refine ⟨rfl, ?_⟩)); done) | (refine ⟨[(18, _), (19, _)], [1, 0, 0, 0, 0, 0, 0, 0, 0, 0, 0, 0, 0, 0, 0, 0], _, ?_, rfl, _, _, rfl, rfl, trivial⟩; focus (repeat (first | exact E.cov_nil | refine ⟨rfl, ?_⟩)); done))
                        · rintro _ _ ⟨Ar, Af, rfl, rfl, hI⟩
                          refine E.CW.seq ?_
                          refine E.CW.region ?_
                          refine E.OW.pure rfl rfl rfl (E.PV.fieldAddr fa28_1 rfl rfl) ?_
                          refine E.OW.pure rfl rfl rfl (E.PV.load (i := 15) na22 rfl rfl rfl rfl) ?_
                          refine E.OW.pure rfl rfl rfl (E.PV.move rfl rfl) ?_
                          refine E.OW.pure rfl rfl rfl (E.PV.conv_in Try.underlying3 Try.underlying26 rfl rfl ?_) ?_; (focus (first | exact E.wrap_u8 _ | (simp only [IntKind.wrap_i64, IntKind.wrap_u64, IntKind.wrap_u8]; omega)))
                          (refine E.OW.call nm102 rfl rfl rfl rfl rfl rfl _ (fun w hw => SliceOwner_ok _ _ _ _ ?_ w ?_ ?_) ?_; (focus (omega)); (focus (omega)); (focus (refine hw.rd ?_; assumption)); rintro _ _ ⟨rfl, rfl⟩)
                          refine E.OW.pure rfl rfl rfl (E.PV.move rfl rfl) ?_
                          refine E.OW.pure rfl rfl rfl (E.PV.extract rfl rfl rfl) ?_
                          refine E.OW.pure rfl rfl rfl (E.PV.extract rfl rfl rfl) ?_
                          refine E.OW.pure rfl rfl rfl (E.PV.assign rfl rfl) ?_
                          refine E.OW.pure rfl rfl rfl (E.PV.assign rfl rfl) ?_
                          refine E.OW.nil ?_
                          refine E.then_n ?_
                          refine E.CW.seq ?_
                          refine E.CW.seq ?_
                          refine E.CW.row_some 0 rfl (by omega) (fun QR hQR => ?_)
                          subst hQR
                          refine E.CW.row_some 1 rfl (by omega) (fun QF hQF => ?_)
                          subst hQF
                          refine E.CW.region ?_
                          refine E.OW.pure rfl rfl rfl (E.PV.move rfl rfl) ?_
                          refine E.OW.pure rfl rfl rfl (E.PV.move rfl rfl) ?_
                          refine E.OW.nil ?_
                          refine E.then_n ?_
                          refine E.CW.block ?_
                          refine E.CW.sels [0, 0, 0, 0, 0, 0, 0, 0, 0, 0, 0, 0, 0, 0, 0, 0] rfl ?_
                          refine E.CW.loopk [1, 3, 5, 7, 8, 12, 13, 18, 19, 20, 135, 136, 151, 9999] 2 rfl rfl (fun mm mods Hm => ∃ j : Nat, mm = g.l.length - j ∧ mods = [(152, .int .i64 j)] ∧ Hm = [E.HP.row 4 1 (some ⟨QR, 0, .none⟩) g.l.length g.l.length (E.bls g.l.length (E.ltb j (fun j => Rt.alw g.q t a b (k : Int) (j : Int)))), E.HP.row 3 1 (some ⟨QF, 0, .none⟩) g.l.length g.l.length (E.iis g.l.length (fun i => if i < j then (-1 : Int) else 0))] ∧ j ≤ g.l.length) (g.l.length) ?_ ?_
                          · exact ⟨[(152, _)], (by repeat (first | exact E.cov_nil | refine ⟨rfl, ?_⟩)), 0, rfl, rfl, (by rw [← E.ltb_zero]; rfl), by omega⟩
                          · rintro _ _ _ ⟨j, rfl, rfl, rfl, hj⟩
                            refine E.CW.seq ?_
                            refine E.CW.region ?_
                            refine E.OW.pure rfl rfl rfl (E.PV.lss rfl rfl rfl) ?_
                            refine E.OW.nil ?_
                            refine E.then_n ?_
                            refine E.CW.seq ?_
                            refine E.CW.cond rfl (fun hc => ?_) (fun hc => ?_)
                            · simp only [E.b0, E.b1, E.b2, E.b3, E.b4, E.b5, E.b6, E.b7, E.b8, E.b9, E.b10, E.b11, E.b12, E.b13, E.b14, E.b15, E.b16, E.b17, E.b18, E.b19, E.b20, reduceCtorEq] at hc
                              all_goals (
                                refine E.CW.skip ?_
                                refine E.then_n ?_
                                refine E.CW.seq ?_
                                refine E.CW.block ?_
                                refine E.CW.seq ?_
                                refine E.CW.region ?_
                                refine E.OW.pure rfl rfl rfl (E.PV.move rfl rfl) ?_
                                refine E.OW.pure rfl rfl rfl (E.PV.assign rfl rfl) ?_
                                refine E.OW.nil ?_
                                refine E.then_n ?_
                                refine E.CW.cut [1, 3, 5, 7, 8, 12, 13, 18, 19, 20, 22, 135, 136, 151, 152, 9999] 1 rfl rfl (fun mods Hm =>  mods = [] ∧ Hm = [E.HP.row 4 1 (some ⟨QR, 0, .none⟩) g.l.length g.l.length (E.bls g.l.length (E.ltb (j + 1) (fun j => Rt.alw g.q t a b (k : Int) (j : Int))))] ∧ True) ?_ ?_
                                · skip
                                  refine E.CW.region ?_
                                  refine E.OW.pure rfl rfl rfl (E.PV.move rfl rfl) ?_
                                  refine E.OW.pure rfl rfl rfl (E.PV.move rfl rfl) ?_
                                  refine E.OW.pure rfl rfl rfl (E.PV.load (i := 13) na87 rfl rfl rfl rfl) ?_
                                  refine E.OW.pure rfl rfl rfl (E.PV.nilCheck rfl rfl) ?_
                                  refine E.OW.pure rfl rfl rfl (E.PV.fieldAddr fa93_1 rfl rfl) ?_
                                  refine E.OW.pure rfl rfl rfl (E.PV.load (i := 2) na89 rfl rfl rfl rfl) ?_
                                  refine E.OW.pure rfl rfl rfl (E.PV.move rfl rfl) ?_
                                  refine E.OW.pure rfl rfl rfl (E.PV.indexAddrA Try.underlying89 in4 rfl rfl rfl rfl ?_) ?_; (focus (omega))
                                  refine E.OW.pure rfl rfl rfl (E.PV.load_bl (E.rdr (i := 11) rfl) na4 rfl rfl ?_) ?_; (focus (omega))
                                  refine E.OW.pure rfl rfl rfl (E.PV.move rfl rfl) ?_
                                  all_goals (refine E.OW.split 164 rfl (fun hc => ?_) (fun hc => ?_) <;> (try simp only [E.b0, E.b1, E.b2, E.b3, E.b4, E.b5, E.b6, E.b7, E.b8, E.b9, E.b10, E.b11, E.b12, E.b13, E.b14, E.b15, E.b16, E.b17, E.b18, E.b19, E.b20, reduceCtorEq] at hc) <;> (try (exfalso; first | assumption | contradiction | omega)))
                                  all_goals (first | (refine E.OW.off rfl rfl rfl ?_) | (refine E.OW.pure rfl rfl rfl (E.PV.move rfl rfl) ?_))
                                  all_goals (first | (refine E.OW.off rfl rfl rfl ?_) | (refine E.OW.pure rfl rfl rfl (E.PV.move rfl rfl) ?_))
                                  all_goals (first | (refine E.OW.off rfl rfl rfl ?_) | (refine E.OW.pure rfl rfl rfl (E.PV.indexAddrA Try.underlying89 in4 rfl rfl rfl rfl ?_) ?_; (focus (omega))))
                                  all_goals (first | (refine E.OW.off rfl rfl rfl ?_) | (refine E.OW.pure rfl rfl rfl (E.PV.load_bl (E.rdr (i := 10) rfl) na4 rfl rfl ?_) ?_; (focus (omega))))
                                  all_goals (first | (refine E.OW.off rfl rfl rfl ?_) | (refine E.OW.pure rfl rfl rfl (E.PV.move rfl rfl) ?_))
                                  all_goals (first | (refine E.OW.put 169 (.tuple #[]) (v := .tuple #[]) rfl rfl ?_) | (refine E.OW.split 169 rfl (fun hc => ?_) (fun hc => ?_) <;> (try simp only [E.b0, E.b1, E.b2, E.b3, E.b4, E.b5, E.b6, E.b7, E.b8, E.b9, E.b10, E.b11, E.b12, E.b13, E.b14, E.b15, E.b16, E.b17, E.b18, E.b19, E.b20, reduceCtorEq] at hc) <;> (try (exfalso; first | assumption | contradiction | omega))))
                                  all_goals (first | (refine E.OW.off rfl rfl rfl ?_) | (refine E.OW.pure rfl rfl rfl (E.PV.move rfl rfl) ?_))
                                  all_goals (first | (refine E.OW.off rfl rfl rfl ?_) | (refine E.OW.pure rfl rfl rfl (E.PV.move rfl rfl) ?_))
                                  all_goals (first | (refine E.OW.off rfl rfl rfl ?_) | (refine E.OW.pure rfl rfl rfl (E.PV.indexAddrA Try.underlying89 in4 rfl rfl rfl rfl ?_) ?_; (focus (omega))))
                                  all_goals (first | (refine E.OW.off rfl rfl rfl ?_) | (refine E.OW.pure rfl rfl rfl (E.PV.load_bl (E.rdr (i := 9) rfl) na4 rfl rfl ?_) ?_; (focus (omega))))
                                  all_goals (first | (refine E.OW.off rfl rfl rfl ?_) | (refine E.OW.pure rfl rfl rfl (E.PV.move rfl rfl) ?_))
                                  all_goals (first | (refine E.OW.put 174 (.tuple #[]) (v := .tuple #[]) rfl rfl ?_) | (refine E.OW.split 174 rfl (fun hc => ?_) (fun hc => ?_) <;> (try simp only [E.b0, E.b1, E.b2, E.b3, E.b4, E.b5, E.b6, E.b7, E.b8, E.b9, E.b10, E.b11, E.b12, E.b13, E.b14, E.b15, E.b16, E.b17, E.b18, E.b19, E.b20, reduceCtorEq] at hc) <;> (try (exfalso; first | assumption | contradiction | omega))))
                                  all_goals (first | (refine E.OW.off rfl rfl rfl ?_) | (refine E.OW.pure rfl rfl rfl (E.PV.move rfl rfl) ?_))
                                  all_goals (first | (refine E.OW.off rfl rfl rfl ?_) | (refine E.OW.pure rfl rfl rfl (E.PV.move rfl rfl) ?_))
                                  all_goals (first | (refine E.OW.off rfl rfl rfl ?_) | (refine E.OW.pure rfl rfl rfl (E.PV.eql rfl rfl rfl) ?_))
                                  all_goals (first | (refine E.OW.off rfl rfl rfl ?_) | (first | (refine E.OW.pure rfl rfl rfl (E.PV.pick_t rfl rfl rfl) ?_) | (refine E.OW.pure rfl rfl rfl (E.PV.pick_f rfl rfl rfl) ?_)))
                                  all_goals (first | (refine E.OW.off rfl rfl rfl ?_) | (first | (refine E.OW.pure rfl rfl rfl (E.PV.pick_t rfl rfl rfl) ?_) | (refine E.OW.pure rfl rfl rfl (E.PV.pick_f rfl rfl rfl) ?_)))
                                  all_goals (first | (refine E.OW.pure rfl rfl rfl (E.PV.pick_t rfl rfl rfl) ?_) | (refine E.OW.pure rfl rfl rfl (E.PV.pick_f rfl rfl rfl) ?_))
                                  all_goals (refine E.OW.pure rfl rfl rfl (E.PV.indexAddrA Try.underlying89 in4 rfl rfl rfl rfl ?_) ?_; (focus (omega)))
                                  all_goals (refine E.OW.store_bl (i := 0) in4.size rfl rfl rfl rfl rfl rfl ?_ ?_; (focus (omega)))
                                  all_goals (
                                    refine E.OW.nil ?_
                                    refine E.then_nf ?_
                                    refine ⟨[], [0, 0, 0, 0, 0, 0, 0, 0, 0, 0, 0, 0, 0, 0, 0, 0], [_], by repeat (first | exact E.cov_nil | refine ⟨rfl, ?_⟩), rfl, rfl, congrArg (fun r => [E.HP.row 4 1 (some ⟨QR, 0, .none⟩) g.l.length g.l.length (r)]) (E.ltb_set (by first | rfl | (unfold Rt.alw; simp_all; try exact Iff.rfl))), trivial⟩)
                                · rintro _ _ ⟨rfl, rfl, hI⟩
                                  refine E.CW.region ?_
                                  refine E.OW.pure rfl rfl rfl (E.PV.move rfl rfl) ?_
                                  refine E.OW.pure rfl rfl rfl (E.PV.move rfl rfl) ?_
                                  refine E.OW.pure rfl rfl rfl (E.PV.indexAddrA Try.underlying31 in3 rfl rfl rfl rfl ?_) ?_; (focus (omega))
                                  refine E.OW.store_ii (i := 1) in3.size rfl rfl rfl rfl rfl rfl ?_ ?_; (focus (omega))
                                  refine E.OW.nil ?_
                                  refine E.blk_n ?_
                                  refine E.then_n ?_
                                  refine E.CW.region ?_
                                  refine E.OW.pure rfl rfl rfl (E.PV.add_i64 rfl rfl rfl ?_) ?_; (focus (omega))
                                  refine E.OW.pure rfl rfl rfl (E.PV.move rfl rfl) ?_
                                  refine E.OW.nil ?_
                                  refine E.then_nf ?_
                                  refine ⟨_, [(152, _)], [1, 0, 0, 0, 0, 0, 0, 0, 0, 0, 0, 0, 0, 0, 0, 0], [_, _], ?_, by repeat (first | exact E.cov_nil | refine ⟨rfl, ?_⟩), rfl, j + 1, rfl, rfl, (by rw [E.iis_set_m1]), by omega⟩
                                  omega)
                            · simp only [E.b0, E.b1, E.b2, E.b3, E.b4, E.b5, E.b6, E.b7, E.b8, E.b9, E.b10, E.b11, E.b12, E.b13, E.b14, E.b15, E.b16, E.b17, E.b18, E.b19, E.b20, reduceCtorEq] at hc
                              all_goals (
                                refine E.CW.exit ?_
                                refine E.then_x ?_
                                refine E.then_x ?_
                                refine E.blk_eq ?_
                                refine E.then_n ?_
                                refine E.CW.cut [1, 3, 5, 7, 8, 12, 13, 19, 135, 136, 9999] 5 rfl rfl (fun mods Hm => ∃ Aa2 : Option Addr, ∃ ca2 : Nat, mods = [] ∧ Hm = [E.HP.row 3 1 (some ⟨QF, 0, .none⟩) g.l.length g.l.length (E.iis g.l.length fun _ => -1), E.HP.blk PB 93 [.int .i64 (g.s.length : Int), .slice (some ⟨QC, 0, .none⟩) g.l.length g.l.length, .slice Aa2 (k + 1) ca2, .slice Ad k cd, .slice (some ⟨QN, 0, .none⟩) g.l.length g.l.length], E.HP.row 89 1 Aa2 (k + 1) ca2 (E.slc2 (k + 1) (E.up Xa k (some ⟨QR, 0, .none⟩)) (fun _ => g.l.length) (E.up ua k g.l.length)), E.HP.rows 4 (k + 1) (E.up Xa k (some ⟨QR, 0, .none⟩)) (fun _ => g.l.length) (E.up ua k g.l.length) (fun (k : Nat) => E.bls g.l.length ((fun j => Rt.alw g.q t a b (k : Int) (j : Int))))] ∧ True) ?_ ?_
                                · skip
                                  obtain rfl : j = g.l.length := by omega
                                  refine E.CW.conv (E.cv_chunk 1 (E.HP.row 3 1 (some ⟨QF, 0, .none⟩) g.l.length g.l.length (E.iis g.l.length fun _ => -1)) rfl (by rw [E.iis_congr fun i hi => if_pos hi])) ?_
                                  refine E.CW.conv (E.cv_chunk 1 (E.HP.row 4 1 (some ⟨QR, 0, .none⟩) g.l.length g.l.length (E.bls g.l.length ((fun j => Rt.alw g.q t a b (k : Int) (j : Int))))) rfl (by rw [E.ltb_all])) ?_
                                  refine E.CW.drawx mixed [13] rfl ?_
                                  all_goals (refine E.AW.first 0 rfl (by kernel_rfl) (by kernel_rfl) (by kernel_rfl) rfl rfl rfl (E.PV.load (i := 0) na87 rfl rfl rfl rfl) ?_)
                                  all_goals (refine E.AW.first 1 rfl (by kernel_rfl) (by kernel_rfl) (by kernel_rfl) rfl rfl rfl (E.PV.load (i := 0) na87 rfl rfl rfl rfl) ?_)
                                  all_goals (refine E.AW.first 2 rfl (by kernel_rfl) (by kernel_rfl) (by kernel_rfl) rfl rfl rfl (E.PV.nilCheck rfl rfl) ?_)
                                  all_goals (refine E.AW.first 3 rfl (by kernel_rfl) (by kernel_rfl) (by kernel_rfl) rfl rfl rfl (E.PV.fieldAddr fa93_2 rfl rfl) ?_)
                                  all_goals (refine E.AW.first 5 rfl (by kernel_rfl) (by kernel_rfl) (by kernel_rfl) rfl rfl rfl (E.PV.move rfl rfl) ?_)
                                  all_goals (
                                    refine E.AW.two 4 6 (by kernel_rfl) rfl rfl ?ga10 ?gb10
                                    case' ga10 =>
                                        all_goals (refine E.OW.pure rfl rfl rfl (E.PV.load (i := 2) na90 rfl rfl rfl rfl) ?_)
                                        all_goals (first | (refine E.AW.nil [13] rfl ?_) | (refine E.AW.nil [14] rfl ?_) | (refine E.AW.nil [15] rfl ?_) | (refine E.AW.nil [16] rfl ?_) | (refine E.AW.nil [17] rfl ?_) | (refine E.AW.nil [18] rfl ?_) | (refine E.AW.nil [19] rfl ?_) | (refine E.AW.nil [12] rfl ?_) | (refine E.AW.nil [11] rfl ?_))
                                        all_goals (refine E.AW.one 6 (by kernel_rfl) rfl ?_)
                                        all_goals (refine E.OW.buildSlice (Et := 89) (sz := 1) (ps := [(0, .tmp 191)]) rfl rfl rfl rfl rfl (by simp) (by unfold maxLen; omega) (fun w => bsl90_1_0 _ _ _ w) (fun A42 => ?_))
                                        all_goals (first | (refine E.AW.nil [13] rfl ?_) | (refine E.AW.nil [14] rfl ?_) | (refine E.AW.nil [15] rfl ?_) | (refine E.AW.nil [16] rfl ?_) | (refine E.AW.nil [17] rfl ?_) | (refine E.AW.nil [18] rfl ?_) | (refine E.AW.nil [19] rfl ?_) | (refine E.AW.nil [12] rfl ?_) | (refine E.AW.nil [11] rfl ?_))
                                        all_goals (refine E.AW.one 7 (by kernel_rfl) rfl ?_)
                                        all_goals (refine E.OW.append (i := 4) Try.underlying90 in89 rfl rfl (by decide) rfl rfl rfl rfl rfl rfl rfl (E.rdr (i := 0) rfl) ?_ ?_ ?_ ?_ (fun A43 c43 => ?_); (focus ((first | rfl | (simp; done) | omega))); (focus ((first | exact E.ints_one | exact E.u8s_one | (simp [Value.oneCell']; done)))); (focus ((unfold maxLen; omega))); (focus ((first | omega | (simp only [List.length_append, List.length_cons, List.length_nil] at *; omega) | (unfold maxLen at *; omega)))))
                                        all_goals (first | (refine E.AW.nil [13] rfl ?_) | (refine E.AW.nil [14] rfl ?_) | (refine E.AW.nil [15] rfl ?_) | (refine E.AW.nil [16] rfl ?_) | (refine E.AW.nil [17] rfl ?_) | (refine E.AW.nil [18] rfl ?_) | (refine E.AW.nil [19] rfl ?_) | (refine E.AW.nil [12] rfl ?_) | (refine E.AW.nil [11] rfl ?_))
                                        all_goals (refine E.AW.first 8 rfl (by kernel_rfl) (by kernel_rfl) (by kernel_rfl) rfl rfl rfl (E.PV.nilCheck rfl rfl) ?_)
                                        all_goals (refine E.AW.first 9 rfl (by kernel_rfl) (by kernel_rfl) (by kernel_rfl) rfl rfl rfl (E.PV.fieldAddr fa93_2 rfl rfl) ?_)
                                        all_goals (refine E.AW.one 10 (by kernel_rfl) rfl ?_)
                                        all_goals (refine E.OW.store (i := 4) in90.size rfl rfl rfl rfl rfl rfl rfl rfl rfl ?_)
                                        all_goals (first | (refine E.AW.nil [13] rfl ?_) | (refine E.AW.nil [14] rfl ?_) | (refine E.AW.nil [15] rfl ?_) | (refine E.AW.nil [16] rfl ?_) | (refine E.AW.nil [17] rfl ?_) | (refine E.AW.nil [18] rfl ?_) | (refine E.AW.nil [19] rfl ?_) | (refine E.AW.nil [12] rfl ?_) | (refine E.AW.nil [11] rfl ?_))
                                        all_goals (refine E.AW.conv (E.cv_snocN 1 rfl rfl) ?_)
                                        all_goals (refine E.AW.conv (E.cv_rows_snocN 3 4 rfl rfl rfl) ?_)
                                        all_goals (refine E.AW.done (by kernel_rfl) ?_)
                                    case' gb10 =>
                                        all_goals (refine E.OW.buildSlice (Et := 89) (sz := 1) (ps := [(0, .tmp 191)]) rfl rfl rfl rfl rfl (by simp) (by unfold maxLen; omega) (fun w => bsl90_1_0 _ _ _ w) (fun A44 => ?_))
                                        all_goals (first | (refine E.AW.nil [13] rfl ?_) | (refine E.AW.nil [14] rfl ?_) | (refine E.AW.nil [15] rfl ?_) | (refine E.AW.nil [16] rfl ?_) | (refine E.AW.nil [17] rfl ?_) | (refine E.AW.nil [18] rfl ?_) | (refine E.AW.nil [19] rfl ?_) | (refine E.AW.nil [12] rfl ?_) | (refine E.AW.nil [11] rfl ?_))
                                        all_goals (refine E.AW.one 4 (by kernel_rfl) rfl ?_)
                                        all_goals (refine E.OW.pure rfl rfl rfl (E.PV.load (i := 3) na90 rfl rfl rfl rfl) ?_)
                                        all_goals (first | (refine E.AW.nil [13] rfl ?_) | (refine E.AW.nil [14] rfl ?_) | (refine E.AW.nil [15] rfl ?_) | (refine E.AW.nil [16] rfl ?_) | (refine E.AW.nil [17] rfl ?_) | (refine E.AW.nil [18] rfl ?_) | (refine E.AW.nil [19] rfl ?_) | (refine E.AW.nil [12] rfl ?_) | (refine E.AW.nil [11] rfl ?_))
                                        all_goals (refine E.AW.one 7 (by kernel_rfl) rfl ?_)
                                        all_goals (refine E.OW.append (i := 4) Try.underlying90 in89 rfl rfl (by decide) rfl rfl rfl rfl rfl rfl rfl (E.rdr (i := 0) rfl) ?_ ?_ ?_ ?_ (fun A45 c45 => ?_); (focus ((first | rfl | (simp; done) | omega))); (focus ((first | exact E.ints_one | exact E.u8s_one | (simp [Value.oneCell']; done)))); (focus ((unfold maxLen; omega))); (focus ((first | omega | (simp only [List.length_append, List.length_cons, List.length_nil] at *; omega) | (unfold maxLen at *; omega)))))
                                        all_goals (first | (refine E.AW.nil [13] rfl ?_) | (refine E.AW.nil [14] rfl ?_) | (refine E.AW.nil [15] rfl ?_) | (refine E.AW.nil [16] rfl ?_) | (refine E.AW.nil [17] rfl ?_) | (refine E.AW.nil [18] rfl ?_) | (refine E.AW.nil [19] rfl ?_) | (refine E.AW.nil [12] rfl ?_) | (refine E.AW.nil [11] rfl ?_))
                                        all_goals (refine E.AW.first 8 rfl (by kernel_rfl) (by kernel_rfl) (by kernel_rfl) rfl rfl rfl (E.PV.nilCheck rfl rfl) ?_)
                                        all_goals (refine E.AW.first 9 rfl (by kernel_rfl) (by kernel_rfl) (by kernel_rfl) rfl rfl rfl (E.PV.fieldAddr fa93_2 rfl rfl) ?_)
                                        all_goals (refine E.AW.one 10 (by kernel_rfl) rfl ?_)
                                        all_goals (refine E.OW.store (i := 4) in90.size rfl rfl rfl rfl rfl rfl rfl rfl rfl ?_)
                                        all_goals (first | (refine E.AW.nil [13] rfl ?_) | (refine E.AW.nil [14] rfl ?_) | (refine E.AW.nil [15] rfl ?_) | (refine E.AW.nil [16] rfl ?_) | (refine E.AW.nil [17] rfl ?_) | (refine E.AW.nil [18] rfl ?_) | (refine E.AW.nil [19] rfl ?_) | (refine E.AW.nil [12] rfl ?_) | (refine E.AW.nil [11] rfl ?_))
                                        all_goals (refine E.AW.conv (E.cv_snocN 1 rfl rfl) ?_)
                                        all_goals (refine E.AW.conv (E.cv_rows_snocN 3 4 rfl rfl rfl) ?_)
                                        all_goals (refine E.AW.done (by kernel_rfl) ?_))
                                  all_goals (
                                    skip
                                    refine E.then_nf ?_
                                    refine ⟨[], [4, 2, 1, 0, 1, 1, 1, 1, 1, 1, 1, 1, 1, 1, 1], [_, _, _, _], by repeat (first | exact E.cov_nil | refine ⟨rfl, ?_⟩), rfl, _, _, rfl, rfl, trivial⟩)
                                · rintro _ _ ⟨Aa2, ca2, rfl, rfl, hI⟩
                                  refine E.CW.drawx mixed [12] rfl ?_
                                  all_goals (refine E.AW.first 0 rfl (by kernel_rfl) (by kernel_rfl) (by kernel_rfl) rfl rfl rfl (E.PV.load (i := 0) na87 rfl rfl rfl rfl) ?_)
                                  all_goals (refine E.AW.first 1 rfl (by kernel_rfl) (by kernel_rfl) (by kernel_rfl) rfl rfl rfl (E.PV.load (i := 0) na87 rfl rfl rfl rfl) ?_)
                                  all_goals (refine E.AW.first 2 rfl (by kernel_rfl) (by kernel_rfl) (by kernel_rfl) rfl rfl rfl (E.PV.nilCheck rfl rfl) ?_)
                                  all_goals (refine E.AW.first 3 rfl (by kernel_rfl) (by kernel_rfl) (by kernel_rfl) rfl rfl rfl (E.PV.fieldAddr fa93_3 rfl rfl) ?_)
                                  all_goals (refine E.AW.first 5 rfl (by kernel_rfl) (by kernel_rfl) (by kernel_rfl) rfl rfl rfl (E.PV.move rfl rfl) ?_)
                                  all_goals (
                                    refine E.AW.two 4 6 (by kernel_rfl) rfl rfl ?ga11 ?gb11
                                    case' ga11 =>
                                        all_goals (refine E.OW.pure rfl rfl rfl (E.PV.load (i := 1) na91 rfl rfl rfl rfl) ?_)
                                        all_goals (first | (refine E.AW.nil [12] rfl ?_) | (refine E.AW.nil [13] rfl ?_) | (refine E.AW.nil [14] rfl ?_) | (refine E.AW.nil [15] rfl ?_) | (refine E.AW.nil [16] rfl ?_) | (refine E.AW.nil [17] rfl ?_) | (refine E.AW.nil [18] rfl ?_) | (refine E.AW.nil [11] rfl ?_) | (refine E.AW.nil [10] rfl ?_))
                                        all_goals (refine E.AW.one 6 (by kernel_rfl) rfl ?_)
                                        all_goals (refine E.OW.buildSlice (Et := 31) (sz := 1) (ps := [(0, .tmp 201)]) rfl rfl rfl rfl rfl (by simp) (by unfold maxLen; omega) (fun w => bsl91_1_0 _ _ _ w) (fun A46 => ?_))
                                        all_goals (first | (refine E.AW.nil [12] rfl ?_) | (refine E.AW.nil [13] rfl ?_) | (refine E.AW.nil [14] rfl ?_) | (refine E.AW.nil [15] rfl ?_) | (refine E.AW.nil [16] rfl ?_) | (refine E.AW.nil [17] rfl ?_) | (refine E.AW.nil [18] rfl ?_) | (refine E.AW.nil [11] rfl ?_) | (refine E.AW.nil [10] rfl ?_))
                                        all_goals (refine E.AW.one 7 (by kernel_rfl) rfl ?_)
                                        all_goals (refine E.OW.append (i := 5) Try.underlying91 in31 rfl rfl (by decide) rfl rfl rfl rfl rfl rfl rfl (E.rdr (i := 0) rfl) ?_ ?_ ?_ ?_ (fun A47 c47 => ?_); (focus ((first | rfl | (simp; done) | omega))); (focus ((first | exact E.ints_one | exact E.u8s_one | (simp [Value.oneCell']; done)))); (focus ((unfold maxLen; omega))); (focus ((first | omega | (simp only [List.length_append, List.length_cons, List.length_nil] at *; omega) | (unfold maxLen at *; omega)))))
                                        all_goals (first | (refine E.AW.nil [12] rfl ?_) | (refine E.AW.nil [13] rfl ?_) | (refine E.AW.nil [14] rfl ?_) | (refine E.AW.nil [15] rfl ?_) | (refine E.AW.nil [16] rfl ?_) | (refine E.AW.nil [17] rfl ?_) | (refine E.AW.nil [18] rfl ?_) | (refine E.AW.nil [11] rfl ?_) | (refine E.AW.nil [10] rfl ?_))
                                        all_goals (refine E.AW.first 8 rfl (by kernel_rfl) (by kernel_rfl) (by kernel_rfl) rfl rfl rfl (E.PV.nilCheck rfl rfl) ?_)
                                        all_goals (refine E.AW.first 9 rfl (by kernel_rfl) (by kernel_rfl) (by kernel_rfl) rfl rfl rfl (E.PV.fieldAddr fa93_3 rfl rfl) ?_)
                                        all_goals (refine E.AW.one 10 (by kernel_rfl) rfl ?_)
                                        all_goals (refine E.OW.store (i := 3) in91.size rfl rfl rfl rfl rfl rfl rfl rfl rfl ?_)
                                        all_goals (first | (refine E.AW.nil [12] rfl ?_) | (refine E.AW.nil [13] rfl ?_) | (refine E.AW.nil [14] rfl ?_) | (refine E.AW.nil [15] rfl ?_) | (refine E.AW.nil [16] rfl ?_) | (refine E.AW.nil [17] rfl ?_) | (refine E.AW.nil [18] rfl ?_) | (refine E.AW.nil [11] rfl ?_) | (refine E.AW.nil [10] rfl ?_))
                                        all_goals (refine E.AW.conv (E.cv_snocN 1 rfl rfl) ?_)
                                        all_goals (refine E.AW.conv (E.cv_rows_snocN 3 5 rfl rfl rfl) ?_)
                                        all_goals (refine E.AW.done (by kernel_rfl) ?_)
                                    case' gb11 =>
                                        all_goals (refine E.OW.buildSlice (Et := 31) (sz := 1) (ps := [(0, .tmp 201)]) rfl rfl rfl rfl rfl (by simp) (by unfold maxLen; omega) (fun w => bsl91_1_0 _ _ _ w) (fun A48 => ?_))
                                        all_goals (first | (refine E.AW.nil [12] rfl ?_) | (refine E.AW.nil [13] rfl ?_) | (refine E.AW.nil [14] rfl ?_) | (refine E.AW.nil [15] rfl ?_) | (refine E.AW.nil [16] rfl ?_) | (refine E.AW.nil [17] rfl ?_) | (refine E.AW.nil [18] rfl ?_) | (refine E.AW.nil [11] rfl ?_) | (refine E.AW.nil [10] rfl ?_))
                                        all_goals (refine E.AW.one 4 (by kernel_rfl) rfl ?_)
                                        all_goals (refine E.OW.pure rfl rfl rfl (E.PV.load (i := 2) na91 rfl rfl rfl rfl) ?_)
                                        all_goals (first | (refine E.AW.nil [12] rfl ?_) | (refine E.AW.nil [13] rfl ?_) | (refine E.AW.nil [14] rfl ?_) | (refine E.AW.nil [15] rfl ?_) | (refine E.AW.nil [16] rfl ?_) | (refine E.AW.nil [17] rfl ?_) | (refine E.AW.nil [18] rfl ?_) | (refine E.AW.nil [11] rfl ?_) | (refine E.AW.nil [10] rfl ?_))
                                        all_goals (refine E.AW.one 7 (by kernel_rfl) rfl ?_)
                                        all_goals (refine E.OW.append (i := 5) Try.underlying91 in31 rfl rfl (by decide) rfl rfl rfl rfl rfl rfl rfl (E.rdr (i := 0) rfl) ?_ ?_ ?_ ?_ (fun A49 c49 => ?_); (focus ((first | rfl | (simp; done) | omega))); (focus ((first | exact E.ints_one | exact E.u8s_one | (simp [Value.oneCell']; done)))); (focus ((unfold maxLen; omega))); (focus ((first | omega | (simp only [List.length_append, List.length_cons, List.length_nil] at *; omega) | (unfold maxLen at *; omega)))))
                                        all_goals (first | (refine E.AW.nil [12] rfl ?_) | (refine E.AW.nil [13] rfl ?_) | (refine E.AW.nil [14] rfl ?_) | (refine E.AW.nil [15] rfl ?_) | (refine E.AW.nil [16] rfl ?_) | (refine E.AW.nil [17] rfl ?_) | (refine E.AW.nil [18] rfl ?_) | (refine E.AW.nil [11] rfl ?_) | (refine E.AW.nil [10] rfl ?_))
                                        all_goals (refine E.AW.first 8 rfl (by kernel_rfl) (by kernel_rfl) (by kernel_rfl) rfl rfl rfl (E.PV.nilCheck rfl rfl) ?_)
                                        all_goals (refine E.AW.first 9 rfl (by kernel_rfl) (by kernel_rfl) (by kernel_rfl) rfl rfl rfl (E.PV.fieldAddr fa93_3 rfl rfl) ?_)
                                        all_goals (refine E.AW.one 10 (by kernel_rfl) rfl ?_)
                                        all_goals (refine E.OW.store (i := 3) in91.size rfl rfl rfl rfl rfl rfl rfl rfl rfl ?_)
                                        all_goals (first | (refine E.AW.nil [12] rfl ?_) | (refine E.AW.nil [13] rfl ?_) | (refine E.AW.nil [14] rfl ?_) | (refine E.AW.nil [15] rfl ?_) | (refine E.AW.nil [16] rfl ?_) | (refine E.AW.nil [17] rfl ?_) | (refine E.AW.nil [18] rfl ?_) | (refine E.AW.nil [11] rfl ?_) | (refine E.AW.nil [10] rfl ?_))
                                        all_goals (refine E.AW.conv (E.cv_snocN 1 rfl rfl) ?_)
                                        all_goals (refine E.AW.conv (E.cv_rows_snocN 3 5 rfl rfl rfl) ?_)
                                        all_goals (refine E.AW.done (by kernel_rfl) ?_))
                                  all_goals (
                                    skip
                                    refine E.blk_n ?_
                                    refine E.then_n ?_
                                    refine E.CW.region ?_
                                    refine E.OW.pure rfl rfl rfl (E.PV.add_i64 rfl rfl rfl ?_) ?_; (focus (omega))
                                    refine E.OW.pure rfl rfl rfl (E.PV.move rfl rfl) ?_
                                    refine E.OW.nil ?_
                                    refine E.then_nf ?_
                                    refine ⟨_, [(136, _)], [2, 3, 3, 1, 0, 1, 1, 1, 1, 1, 1, 1, 1, 1], [_, _, _, _, _], ?_, by repeat (first | exact E.cov_nil | refine ⟨rfl, ?_⟩), rfl, k + 1, _, _, _, _, _, _, _, _, rfl, rfl, rfl, by omega⟩
                                    omega)))
                    · simp only [E.b0, E.b1, E.b2, E.b3, E.b4, E.b5, E.b6, E.b7, E.b8, E.b9, E.b10, E.b11, E.b12, E.b13, E.b14, E.b15, E.b16, E.b17, E.b18, E.b19, E.b20, reduceCtorEq] at hc
                      all_goals (
                        refine E.CW.exit ?_
                        refine E.then_x ?_
                        refine E.then_x ?_
                        refine E.blk_eq ?_
                        refine E.then_n ?_
                        refine E.CW.seq ?_
                        obtain rfl : k = g.s.length := by omega
                        refine E.CW.conv (E.cv_gather [0, 8, 0, 0, 0, 2, 1, 0, 0, 0, 0, 0, 0, 0] 7 rfl rfl) ?_
                        refine E.CW.conv (E.cv_chunk 0 (E.HP.pl0 ⟨PB, (Rt.G g.q t a b), (some ⟨QC, 0, .none⟩), g.l.length, Aa, ca, Xa, ua, Ad, cd, Xd, ud, (some ⟨QN, 0, .none⟩), g.l.length, Xn, un⟩) rfl rfl) ?_
                        refine E.CW.conv (E.cv_chunk 1 (E.HP.dist ⟨PB, (Rt.G g.q t a b), (some ⟨QC, 0, .none⟩), g.l.length, Aa, ca, Xa, ua, Ad, cd, Xd, ud, (some ⟨QN, 0, .none⟩), g.l.length, Xn, un⟩ fun _ _ => -1) rfl rfl) ?_
                        refine E.CW.region ?_
                        refine E.OW.pure rfl rfl rfl (E.PV.load (i := 5) na87 rfl rfl rfl rfl) ?_
                        refine E.OW.pure rfl rfl rfl (E.PV.fieldAddr fa30_1 rfl rfl) ?_
                        refine E.OW.pure rfl rfl rfl (E.PV.load (i := 6) na3 rfl rfl rfl rfl) ?_
                        refine E.OW.put 209 (.int .i64 ((b.toNat : Nat) : Int)) rfl (congrArg (Value.int .i64) (Int.toNat_of_nonneg hrb.1).symm) ?_
                        refine E.OW.callM nm103 rfl rfl rfl rfl rfl rfl _ 0 rfl (fun w S hw hs hb hc => fill_ok ⟨PB, (Rt.G g.q t a b), (some ⟨QC, 0, .none⟩), g.l.length, Aa, ca, Xa, ua, Ad, cd, Xd, ud, (some ⟨QN, 0, .none⟩), g.l.length, Xn, un⟩ S w hs (fun k hk => (hb k hk).1) (E.rd0_in hc (i := 0) rfl) (Rt.G_ok hL) hn64 hs16.2 (Rt.G_near _ _ _ _)) ?_; rintro _ _ ⟨DF, rfl, hDF⟩
                        refine E.OW.cvt (E.cv_gather [1, 0, 0, 0, 0, 0, 0, 0] 2 rfl rfl) ?_
                        refine E.OW.cvt (E.cv_chunk 0 (E.HP.plan ⟨PB, (Rt.G g.q t a b), (some ⟨QC, 0, .none⟩), g.l.length, Aa, ca, Xa, ua, Ad, cd, Xd, ud, (some ⟨QN, 0, .none⟩), g.l.length, Xn, un⟩ DF) rfl rfl) ?_
                        refine E.OW.nil ?_
                        refine E.then_n ?_
                        refine E.CW.seq ?_
                        refine E.CW.region ?_
                        refine E.OW.pure rfl rfl rfl (E.PV.load (i := 4) na87 rfl rfl rfl rfl) ?_
                        refine E.OW.pure rfl rfl rfl (E.PV.assign rfl rfl) ?_
                        refine E.OW.nil ?_
                        refine E.then_n ?_
                        refine E.CW.ret ?_
                        refine E.KRM.one [3, 0] rfl Try.results59 rfl rfl ?_
                        exact ⟨_, _, rfl, rfl, rfl, hDF⟩)))
end Go.Proofs.Ytflkbabhbnmajaa

/- Arrivals, routes, reached places, plainly: no program in sight. -/
set_option linter.unusedSimpArgs false
set_option linter.unusedVariables false
namespace Go.Proofs.Ytflkbabhbnmajaa
namespace Bf
/-- the search ends. -/
theorem Part.run {x : G} (ok : x.ok) {q0 : List (Nat × Nat)} {h : Nat} : ∀ (m : Nat) {D : DD} {q : List (Nat × Nat)} {j : Nat}, Part x D q h j → at_ q h = at_ q0 h → (x.nr (at_ q0 h).1).length ≤ j + m → ∃ D' q', Base x D' q' (h + 1) ∧ (∀ k, k < x.K → D' k x.goal = 0) ∧ h < q'.length := by
  intro m
  induction m with
  | zero => intro D q j a e hl; exact ⟨D, q, a.done (by rw [e]; omega), a.g, a.hl⟩
  | succ m ih =>
    intro D q j a e hl
    rcases Nat.lt_or_ge j (x.nr (at_ q0 h).1).length with hj | hj
    · cases hc : x.cell ((x.nr (at_ q h).1).getD j 0) with
      | true => exact ih (a.see ok (by rw [e]; exact hj) hc) ((seeQ_at a.hl).trans e) (by omega)
      | false => exact ih (a.skip hc) e (by omega)
    · exact ⟨D, q, a.done (by rw [e]; omega), a.g, a.hl⟩
theorem run_from {x : G} (ok : x.ok) : ∀ (m : Nat) {D : DD} {q : List (Nat × Nat)} {h : Nat}, Base x D q h → (∀ k, k < x.K → D k x.goal = 0) → h ≤ q.length → x.n * x.K ≤ h + m → ∃ D q, Base x D q q.length ∧ ∀ k, k < x.K → D k x.goal = 0 := by
  intro m
  induction m with
  | zero =>
    intro D q h b g hq hm
    have := len_le b
    have : h = q.length := by omega
    subst this
    exact ⟨D, q, b, g⟩
  | succ m ih =>
    intro D q h b g hq hm
    rcases Nat.lt_or_ge h q.length with hh | hh
    · obtain ⟨D', q', b', g', hl⟩ := Part.run ok (q0 := q) (x.nr (at_ q h).1).length (b.part hh g) rfl (by omega)
      exact ih b' g' hl (by omega)
    · have : h = q.length := by omega
      subst this
      exact ⟨D, q, b, g⟩
theorem Start.run {x : G} (ok : x.ok) : ∀ j, j ≤ x.K → ∃ D q, Start x D q j := by
  intro j
  induction j with
  | zero => intro _; exact ⟨_, _, Start.zero x (D := fun _ _ => -1) fun _ _ => rfl⟩
  | succ j ih => intro hj; obtain ⟨D, q, h⟩ := ih (by omega); exact ⟨_, _, h.see ok (by omega)⟩
theorem run {x : G} (ok : x.ok) : ∃ D q, Base x D q q.length ∧ ∀ k, k < x.K → D k x.goal = 0 := by
  obtain ⟨D, q, h⟩ := Start.run ok x.K (Nat.le_refl _)
  exact run_from ok (x.n * x.K) h.b (fun k hk => h.g k hk) (Nat.zero_le _) (by omega)
/-- the length of a shortest walk, or -1. -/
noncomputable def arr (x : G) (k p : Nat) : Int := open Classical in if h : ∃ v, Ar x k p v then Classical.choose h else -1
theorem arr_of {x : G} {k p : Nat} {v : Int} (h : Ar x k p v) : arr x k p = v := by
  have he : ∃ v, Ar x k p v := ⟨v, h⟩
  unfold arr
  rw [dif_pos he]
  exact (Classical.choose_spec he).uniq h
theorem arr_ar {x : G} (ok : x.ok) {k p : Nat} (hk : k < x.K) (hp : p < x.n) (hc : x.cell p = true) : Ar x k p (arr x k p) := by
  obtain ⟨D, q, b, g⟩ := run ok
  have := b.ar ok g hk hp hc
  rw [arr_of this]; exact this
/-- where a walk of m steps from a can be. -/
def R (x : G) (k0 a : Nat) : Nat → Nat → Bool
  | 0, q => decide (q = a)
  | m + 1, q => ((List.range x.n).any fun p => R x k0 a m p && decide (q ∈ x.nr p)) && x.al ((k0 + m + 1) % x.K) q
theorem R_succ {x : G} {k0 a m q : Nat} : R x k0 a (m + 1) q = true ↔ (∃ p, p < x.n ∧ R x k0 a m p = true ∧ q ∈ x.nr p) ∧ x.al ((k0 + m + 1) % x.K) q = true := by
  show (((List.range x.n).any fun p => R x k0 a m p && decide (q ∈ x.nr p)) && x.al ((k0 + m + 1) % x.K) q) = true ↔ _
  rw [Bool.and_eq_true, List.any_eq_true]
  constructor
  · rintro ⟨⟨p, h1, h2⟩, h3⟩
    rw [Bool.and_eq_true, decide_eq_true_eq] at h2
    exact ⟨⟨p, List.mem_range.1 h1, h2.1, h2.2⟩, h3⟩
  · rintro ⟨⟨p, h1, h2, h4⟩, h3⟩
    exact ⟨⟨p, List.mem_range.2 h1, by rw [Bool.and_eq_true, decide_eq_true_eq]; exact ⟨h2, h4⟩⟩, h3⟩
theorem R_lt {x : G} (ok : x.ok) {k0 a : Nat} (ha : a < x.n) : ∀ {m q : Nat}, R x k0 a m q = true → q < x.n := by
  intro m q h
  cases m with
  | zero => have : q = a := of_decide_eq_true h; omega
  | succ m => obtain ⟨⟨p, h1, _, h3⟩, _⟩ := R_succ.1 h; exact ok.nrlt p q h1 h3
theorem R_W {x : G} (ok : x.ok) {k0 a : Nat} (ha : a < x.n) : ∀ m j p, R x k0 a j p = true → W x m ((k0 + j) % x.K) p → R x k0 a (j + m) x.goal = true := by
  intro m
  induction m with
  | zero => intro j p h1 h2; have : p = x.goal := h2; subst this; exact h1
  | succ m ih =>
    intro j p h1 ⟨q, h2, h3, h4⟩
    rw [Nat.mod_add_mod] at h3 h4
    have h5 : R x k0 a (j + 1) q = true := R_succ.2 ⟨⟨p, R_lt ok ha h1, h1, h2⟩, h3⟩
    have := ih (j + 1) q h5 (by rw [show k0 + (j + 1) = k0 + j + 1 by omega]; exact h4)
    rw [show j + (m + 1) = j + 1 + m by omega]; exact this
theorem W_R {x : G} {k0 a : Nat} : ∀ m j, R x k0 a (j + m) x.goal = true → ∃ p, R x k0 a j p = true ∧ W x m ((k0 + j) % x.K) p := by
  intro m
  induction m with
  | zero => intro j h; exact ⟨x.goal, h, rfl⟩
  | succ m ih =>
    intro j h
    obtain ⟨p, h1, h2⟩ := ih (j + 1) (by rw [show j + 1 + m = j + (m + 1) by omega]; exact h)
    obtain ⟨⟨p', _, h4, h5⟩, h6⟩ := R_succ.1 h1
    refine ⟨p', h4, p, h5, ?_, ?_⟩
    · rw [Nat.mod_add_mod]; exact h6
    · rw [Nat.mod_add_mod]; rw [show k0 + (j + 1) = k0 + j + 1 by omega] at h2; exact h2
theorem R_iff {x : G} (ok : x.ok) {k0 a : Nat} (ha : a < x.n) (hk : k0 < x.K) (m : Nat) : R x k0 a m x.goal = true ↔ W x m k0 a := by
  constructor
  · intro h
    obtain ⟨p, h1, h2⟩ := W_R m 0 (by rw [Nat.zero_add]; exact h)
    have : p = a := of_decide_eq_true h1
    subst this
    rw [Nat.add_zero, Nat.mod_eq_of_lt hk] at h2; exact h2
  · intro h
    have := R_W ok ha m 0 a (decide_eq_true rfl) (by rw [Nat.add_zero, Nat.mod_eq_of_lt hk]; exact h)
    rwa [Nat.zero_add] at this
/-- the next place of a route: from the state of the next tick. -/
noncomputable def nx (x : G) (k p : Nat) (n : Int) : Nat := ((x.nr p).find? fun q => x.al k q && decide (arr x k q = n - 1)).getD p
theorem nx_at {x : G} {k p j : Nat} {n : Int} (hj : j < (x.nr p).length) (h1 : ∀ i, i < j → (x.al k ((x.nr p).getD i 0) && decide (arr x k ((x.nr p).getD i 0) = n - 1)) = false) (h2 : (x.al k ((x.nr p).getD j 0) && decide (arr x k ((x.nr p).getD j 0) = n - 1)) = true) :
    nx x k p n = (x.nr p).getD j 0 := by
  unfold nx
  have : (x.nr p).find? (fun q => x.al k q && decide (arr x k q = n - 1)) = some ((x.nr p).getD j 0) := by
    rw [List.find?_eq_some_iff_getElem]
    refine ⟨h2, j, hj, by simp [List.getD, hj], fun i hi => ?_⟩
    have := h1 i hi
    rw [List.getD_eq_getElem?_getD, List.getElem?_eq_getElem (by omega), Option.getD_some] at this
    rw [this]; rfl
  rw [this]; rfl
theorem nx_none {x : G} {k p : Nat} {n : Int} (h1 : ∀ i, i < (x.nr p).length → (x.al k ((x.nr p).getD i 0) && decide (arr x k ((x.nr p).getD i 0) = n - 1)) = false) : nx x k p n = p := by
  unfold nx
  have : (x.nr p).find? (fun q => x.al k q && decide (arr x k q = n - 1)) = none := by
    rw [List.find?_eq_none]
    intro q hq
    obtain ⟨i, hi, rfl⟩ := List.getElem_of_mem hq
    have := h1 i hi
    rw [List.getD_eq_getElem?_getD, List.getElem?_eq_getElem hi, Option.getD_some] at this
    rw [this]; decide
  rw [this]; rfl
/-- a route: m places behind p, from the phase k on. -/
noncomputable def rt (x : G) : Nat → Nat → Nat → List Nat
  | 0, _, p => [p]
  | m + 1, k, p => p :: rt x m ((k + 1) % x.K) (nx x ((k + 1) % x.K) p ((m : Int) + 1))
theorem rt_len (x : G) : ∀ m k p, (rt x m k p).length = m + 1 := by
  intro m
  induction m with
  | zero => intro k p; rfl
  | succ m ih => intro k p; simp only [rt, List.length_cons, ih]
theorem rt_head (x : G) : ∀ m k p, ∃ r, rt x m k p = p :: r := by
  intro m k p
  cases m with
  | zero => exact ⟨[], rfl⟩
  | succ m => exact ⟨_, rfl⟩
/-- the next place of a place with the arrival m + 1 is a neighbour with the arrival m. -/
theorem nx_ok {x : G} (ok : x.ok) {k p m : Nat} (hk : k < x.K) (hp : p < x.n) (hc : x.cell p = true) (h : arr x k p = (m : Int) + 1) :
    nx x ((k + 1) % x.K) p ((m : Int) + 1) ∈ x.nr p ∧ x.al ((k + 1) % x.K) (nx x ((k + 1) % x.K) p ((m : Int) + 1)) = true ∧ arr x ((k + 1) % x.K) (nx x ((k + 1) % x.K) p ((m : Int) + 1)) = m := by
  have ha := arr_ar ok hk hp hc
  rw [h] at ha
  rcases ha with ⟨h1, _⟩ | ⟨_, _, hw, hmin⟩
  · omega
  · rw [show ((m : Int) + 1).toNat = m + 1 by omega] at hw
    obtain ⟨q, h1, h2, h3⟩ := hw
    have hk1 : (k + 1) % x.K < x.K := Nat.mod_lt _ ok.K0
    have hq := ok.nrlt p q hp h1
    have hq2 : arr x ((k + 1) % x.K) q = m := by
      rcases arr_ar ok hk1 hq (ok.alc _ _ h2) with ⟨_, g2⟩ | ⟨g1, _, g2, g3⟩
      · exact absurd h3 (g2 m)
      · have h4 := g3 m h3
        have h5 := hmin ((arr x ((k + 1) % x.K) q).toNat + 1) ⟨q, h1, h2, g2⟩
        omega
    unfold nx
    cases hf : (x.nr p).find? (fun q => x.al ((k + 1) % x.K) q && decide (arr x ((k + 1) % x.K) q = (m : Int) + 1 - 1)) with
    | none =>
      have := List.find?_eq_none.1 hf q h1
      simp only [h2, Bool.true_and, decide_eq_true_eq] at this
      omega
    | some r =>
      have h4 := List.find?_some hf
      have h5 := List.mem_of_find?_eq_some hf
      simp only [Bool.and_eq_true, decide_eq_true_eq] at h4
      exact ⟨h5, h4.1, by have := h4.2; simp only [Option.getD_some]; omega⟩
end Bf
namespace Rt
open Cf
/-- the places that f tells, in increasing order. -/
def pls (n : Nat) (f : Nat → Bool) : List Int := ((List.range n).filter f).map fun (p : Nat) => (p : Int)
theorem pls_yes {n : Nat} {f : Nat → Bool} (h : f n = true) : pls (n + 1) f = pls n f ++ [(n : Int)] := by
  unfold pls; rw [List.range_succ, List.filter_append, List.map_append]; simp only [List.filter_cons, h, if_true, List.filter_nil, List.map_cons, List.map_nil]
theorem pls_no {n : Nat} {f : Nat → Bool} (h : f n = false) : pls (n + 1) f = pls n f := by
  unfold pls; rw [List.range_succ, List.filter_append, List.map_append]; simp only [List.filter_cons, h, Bool.false_eq_true, if_false, List.filter_nil, List.map_nil, List.append_nil]
theorem pls_len (n : Nat) (f : Nat → Bool) : (pls n f).length ≤ n := by
  unfold pls; rw [List.length_map]; have := List.length_filter_le f (List.range n); simpa using this
theorem pls_mem {n : Nat} {f : Nat → Bool} {p : Int} : p ∈ pls n f ↔ 0 ≤ p ∧ p < n ∧ f p.toNat = true := by
  unfold pls
  simp only [List.mem_map, List.mem_filter, List.mem_range]
  constructor
  · rintro ⟨q, ⟨h1, h2⟩, rfl⟩; exact ⟨by omega, by omega, by simpa using h2⟩
  · rintro ⟨h1, h2, h3⟩; exact ⟨p.toNat, ⟨by omega, h3⟩, by omega⟩
def ph (g : C) (tick : Int) : Nat := (tick % (g.s.length : Int)).toNat
theorem ph_lt {g : C} (h : check g = 0) (tick : Int) : ph g tick < g.s.length := by
  have := per_of h
  have h1 := Int.emod_nonneg tick (show (g.s.length : Int) ≠ 0 by omega)
  have h2 := Int.emod_lt_of_pos tick (show (0 : Int) < g.s.length by omega)
  unfold ph; omega
theorem ph_int {g : C} (h : check g = 0) (tick : Int) : tick % (g.s.length : Int) = ((ph g tick : Nat) : Int) := by
  have := per_of h
  have h1 := Int.emod_nonneg tick (show (g.s.length : Int) ≠ 0 by omega)
  unfold ph; omega
theorem ph_add {g : C} (h : check g = 0) {tick : Int} (m : Nat) : ph g (tick + (m : Int)) = (ph g tick + m) % g.s.length := by
  have h1 := ph_int h (tick + (m : Int))
  have h2 := ph_int h tick
  have h3 : (((ph g tick + m) % g.s.length : Nat) : Int) = tick % (g.s.length : Int) + (m : Int) - ((tick % (g.s.length : Int) + (m : Int)) / (g.s.length : Int)) * (g.s.length : Int) := by
    rw [h2, Int.natCast_emod, Int.natCast_add, Int.emod_def]
    rw [Int.mul_comm]
  have h4 : (tick + (m : Int)) % (g.s.length : Int) = (tick % (g.s.length : Int) + (m : Int)) % (g.s.length : Int) := by rw [Int.emod_add_emod]
  rw [h4, Int.emod_def, Int.mul_comm] at h1
  omega
theorem ph_nat {g : C} (k : Nat) (hk : k < g.s.length) : ph g (k : Int) = k := by
  unfold ph; rw [Int.emod_eq_of_lt (by omega) (by omega)]; rfl
def cellsR (g : C) (t a b : Int) : List Int × Int := if legE g t a b 0 = 0 then (pls g.l.length (G g t a b).cell, 0) else ([], legE g t a b 0)
def freeR (g : C) (t a b p tick : Int) : Bool × Int :=
  if legE g t a b tick = 0 then (if 0 ≤ p ∧ p < (g.l.length : Int) then ((G g t a b).al (ph g tick) p.toNat, 0) else (false, 2)) else (false, legE g t a b tick)
def reachR (g : C) (t a b tick n : Int) : List Int × Int :=
  if legE g t a b tick = 0 then (if 0 ≤ n ∧ n ≤ 1024 then (pls g.l.length (Bf.R (G g t a b) (ph g tick) a.toNat n.toNat), 0) else ([], 2)) else ([], legE g t a b tick)
noncomputable def arrv (g : C) (t a b tick : Int) : Int := Bf.arr (G g t a b) (ph g tick) a.toNat
noncomputable def arrivalR (g : C) (t a b tick : Int) : Int × Int :=
  if legE g t a b tick = 0 then (if arrv g t a b tick < 0 then (0, 130) else (arrv g t a b tick, 0)) else (0, legE g t a b tick)
noncomputable def rts (g : C) (t a b tick : Int) : List Int := (Bf.rt (G g t a b) (arrv g t a b tick).toNat (ph g tick) a.toNat).map fun (p : Nat) => (p : Int)
noncomputable def routeR (g : C) (t a b tick : Int) : List Int × Int :=
  if legE g t a b tick = 0 then (if arrv g t a b tick < 0 then ([], 130) else (rts g t a b tick, 0)) else ([], legE g t a b tick)
noncomputable def nextR (g : C) (t a b tick : Int) : Int × Int :=
  if (routeR g t a b tick).2 = 0 then (if (routeR g t a b tick).1.length < 2 then (0, 6) else ((routeR g t a b tick).1.getD 1 0, 0)) else (0, (routeR g t a b tick).2)
noncomputable def tableR (g : C) (t a b : Int) : List Int × Int := if legE g t a b 0 = 0 then ((List.range g.s.length).map fun k => Bf.arr (G g t a b) k a.toNat, 0) else ([], legE g t a b 0)
/-- a list is a walk on a leg: its steps. -/
def stepsOk (x : Bf.G) (k0 : Nat) (l : List Int) (m : Nat) : Prop := ∀ i, i < m → 0 ≤ l.getD (i + 1) 0 ∧ (l.getD (i + 1) 0).toNat ∈ x.nr (l.getD i 0).toNat ∧ x.al ((k0 + i + 1) % x.K) (l.getD (i + 1) 0).toNat = true
def isWalk (g : C) (t a b tick : Int) (l : List Int) : Prop := l.length ≠ 0 ∧ l.getD 0 0 = a ∧ l.getD (l.length - 1) 0 = b ∧ stepsOk (G g t a b) (ph g tick) l (l.length - 1)
noncomputable def walkR (g : C) (t a b tick : Int) (l : List Int) : Bool × Int := open Classical in
  if legE g t a b tick = 0 then (if l.length ≤ 1025 then (decide (isWalk g t a b tick l), 0) else (false, 4)) else (false, legE g t a b tick)
def prs (u v : List Int) : List (Int × Int) := u.flatMap fun p => v.map fun q => (p, q)
def legs (m : T) : List (Int × Int) := prs m.h m.p ++ prs m.p m.d ++ prs m.d m.h
def legsR (g : C) (t : Int) : List (Int × Int) × Int := if asked g t 0 = 0 then (legs (team g t), 0) else ([], asked g t 0)
end Rt
end Go.Proofs.Ytflkbabhbnmajaa

/- Laws for the walks over a plan. -/
set_option linter.unusedSimpArgs false
set_option linter.unusedVariables false
namespace Go.Proofs.Ytflkbabhbnmajaa
namespace Rt
open Cf
def phk (K : Nat) (tick : Int) : Nat := (tick % (K : Int)).toNat
theorem phk_lt {K : Nat} (h : 1 ≤ K) (tick : Int) : phk K tick < K := by
  have h1 := Int.emod_nonneg tick (show (K : Int) ≠ 0 by omega)
  have h2 := Int.emod_lt_of_pos tick (show (0 : Int) < K by omega)
  unfold phk; omega
theorem phk_int {K : Nat} (h : 1 ≤ K) (tick : Int) : tick % (K : Int) = ((phk K tick : Nat) : Int) := by
  have h1 := Int.emod_nonneg tick (show (K : Int) ≠ 0 by omega)
  unfold phk; omega
theorem rng_all {p : Nat → Bool} {k : Nat} (h : ∀ j, j < k → p j = false) (e : p k = false) : ∀ j, j < k + 1 → p j = false := fun j hj => by
  rcases Nat.lt_succ_iff_lt_or_eq.1 hj with h' | rfl
  · exact h j h'
  · exact e
theorem cell_from {g : C} {t a b : Int} (h : Leg g t a b) : (G g t a b).cell a.toNat = true := by
  show has g t a b ((a.toNat : Nat) : Int) = true
  rw [Int.toNat_of_nonneg h.ra.1]
  unfold has
  rw [decide_eq_true (rfl : a = a)]
  simp
theorem plan_all {x : Bf.G} {D : Bf.DD} (h : ∀ k p, k < x.K → p < x.n → x.cell p = true → Bf.Ar x k p (D k p)) : ∀ k p, k < x.K → p < x.n → x.cell p = true → D k p = Bf.arr x k p := fun k p h1 h2 h3 => (Bf.arr_of (h k p h1 h2 h3)).symm
theorem plan_at {g : C} {t a b : Int} (hL : Leg g t a b) {x : Bf.G} (hx : x = G g t a b) {D : Bf.DD} (h : ∀ k p, k < x.K → p < x.n → x.cell p = true → Bf.Ar x k p (D k p)) {k : Nat} (hk : k < x.K) : D k a.toNat = Bf.arr (G g t a b) k a.toNat := by
  subst hx
  exact plan_all h k a.toNat hk (by have := hL.ra; show a.toNat < g.l.length; omega) (cell_from hL)
theorem plan_arr {g : C} {t a b : Int} (hL : Leg g t a b) {x : Bf.G} (hx : x = G g t a b) {D : Bf.DD} (h : ∀ k p, k < x.K → p < x.n → x.cell p = true → Bf.Ar x k p (D k p)) {tick : Int} : D (phk x.K tick) a.toNat = arrv g t a b tick := by
  subst hx
  exact plan_at hL rfl h (phk_lt (per_of hL.c).1 tick)
def tbl (D : Bf.DD) (p k : Nat) : List Int := (List.range k).map fun i => D i p
theorem tbl_succ (D : Bf.DD) (p k : Nat) : tbl D p (k + 1) = tbl D p k ++ [D k p] := by unfold tbl; rw [List.range_succ, List.map_append]; rfl
theorem tbl_len (D : Bf.DD) (p k : Nat) : (tbl D p k).length = k := by simp [tbl]
theorem tbl_all {D D' : Bf.DD} {p k : Nat} (h : ∀ i, i < k → D i p = D' i p) : tbl D p k = tbl D' p k := by
  unfold tbl; apply List.map_congr_left; intro i hi; exact h i (List.mem_range.1 hi)
theorem arv_of {g : C} {t a b tick : Int} (h : legE g t a b tick = 0) : arrivalR g t a b tick = if arrv g t a b tick < 0 then (0, 130) else (arrv g t a b tick, 0) := if_pos h
theorem arv_err {g : C} {t a b tick : Int} (h : ¬ legE g t a b tick = 0) : arrivalR g t a b tick = (0, legE g t a b tick) := if_neg h
theorem phk_succ {K : Nat} (h : 1 ≤ K) (tick : Int) : phk K (tick + 1) = (phk K tick + 1) % K := by
  have h1 := phk_int h (tick + 1)
  have h2 := phk_int h tick
  have h3 : (tick + 1) % (K : Int) = (tick % (K : Int) + 1) % (K : Int) := by rw [Int.emod_add_emod]
  rw [h3, h2] at h1
  have h4 : (((phk K tick + 1) % K : Nat) : Int) = ((phk K tick : Nat) + 1 : Int) % (K : Int) := by rw [Int.natCast_emod]; rfl
  omega
theorem phk_add {K : Nat} (h : 1 ≤ K) (tick : Int) (m : Nat) : phk K (tick + (m : Int)) = (phk K tick + m) % K := by
  induction m with
  | zero => simp only [Int.natCast_zero, Int.add_zero, Nat.add_zero]; rw [Nat.mod_eq_of_lt (phk_lt h tick)]
  | succ m ih =>
    rw [show tick + ((m + 1 : Nat) : Int) = tick + (m : Int) + 1 by omega, phk_succ h, ih, Nat.mod_add_mod]
    rfl
/-- the places that can be reached, as they are found: from the first p places, and j neighbours of the next one. -/
def nxf (x : Bf.G) (k : Nat) (r : Nat → Bool) (p j q : Nat) : Bool := ((List.range p).any (fun p' => r p' && decide (q ∈ x.nr p')) || (r p && decide (q ∈ (x.nr p).take j))) && x.al k q
theorem nxf_zero (n : Nat) (x : Bf.G) (k : Nat) (r : Nat → Bool) : E.bls n (fun _ => false) = E.bls n (nxf x k r 0 0) := E.bls_congr fun q _ => by simp [nxf]
theorem nxf_step {n : Nat} {x : Bf.G} {k : Nat} {r : Nat → Bool} {p j : Nat} {V : Bool} (hj : j < (x.nr p).length) (hV : V = (nxf x k r p j ((x.nr p).getD j 0) || (r p && x.al k ((x.nr p).getD j 0)))) :
    E.bls n (E.up (nxf x k r p j) ((x.nr p).getD j 0) V) = E.bls n (nxf x k r p (j + 1)) := by
  refine E.bls_congr fun q _ => ?_
  have e : (x.nr p).getD j 0 = (x.nr p)[j] := by simp [List.getD, hj]
  have ht : (x.nr p).take (j + 1) = (x.nr p).take j ++ [(x.nr p)[j]] := by rw [List.take_add_one, List.getElem?_eq_getElem hj, Option.toList_some]
  by_cases hq : q = (x.nr p).getD j 0
  · subst hq
    rw [E.up_same, hV]
    have hm : decide ((x.nr p).getD j 0 ∈ (x.nr p).take (j + 1)) = true := decide_eq_true (by rw [ht, e]; exact List.mem_append_right _ (List.mem_singleton.2 rfl))
    unfold nxf
    rw [hm]
    generalize ((List.range p).any fun p' => r p' && decide ((x.nr p).getD j 0 ∈ x.nr p')) = X
    generalize decide ((x.nr p).getD j 0 ∈ (x.nr p).take j) = d
    generalize x.al k ((x.nr p).getD j 0) = a
    cases X <;> cases r p <;> cases a <;> cases d <;> rfl
  · rw [E.up_ne _ _ hq]
    unfold nxf
    have : decide (q ∈ (x.nr p).take (j + 1)) = decide (q ∈ (x.nr p).take j) := decide_eq_decide.2 (by rw [ht, ← e, List.mem_append, List.mem_singleton]; exact ⟨fun h => h.resolve_right hq, .inl⟩)
    rw [this]
theorem nxf_row {n : Nat} {x : Bf.G} {k : Nat} {r : Nat → Bool} {p j : Nat} (hj : (x.nr p).length ≤ j) : E.bls n (nxf x k r p j) = E.bls n (nxf x k r (p + 1) 0) := E.bls_congr fun q _ => by
  unfold nxf
  rw [List.take_of_length_le hj, List.range_succ, List.any_append]
  simp
theorem nxf_R {n : Nat} {x : Bf.G} {k0 a m k : Nat} (hn : x.n = n) (hk : k = (k0 + m + 1) % x.K) : E.bls n (nxf x k (Bf.R x k0 a m) n 0) = E.bls n (Bf.R x k0 a (m + 1)) := E.bls_congr fun q _ => by
  subst hn hk
  unfold nxf
  rw [List.take_zero]
  simp [Bf.R]
theorem R_zero {n : Nat} {x : Bf.G} {k0 a : Nat} : E.bls n (E.up (fun _ => false) a true) = E.bls n (Bf.R x k0 a 0) := E.bls_congr fun q _ => by
  unfold E.up Bf.R
  by_cases h : q = a <;> simp [h]
/-- a place among the first j neighbours. -/
def fnd (x : Bf.G) (p j : Nat) (z : Int) : Bool := decide (z ∈ (E.nn x p).take j)
theorem fnd_zero (x : Bf.G) (p : Nat) (z : Int) : fnd x p 0 z = false := by simp [fnd]
theorem fnd_step {x : Bf.G} {p j : Nat} {z : Int} {V : Bool} (hj : j < (x.nr p).length) (hV : V = (fnd x p j z || decide ((((x.nr p).getD j 0 : Nat) : Int) = z))) : V = fnd x p (j + 1) z := by
  subst hV
  unfold fnd
  have hj' : j < (E.nn x p).length := by simpa using hj
  have e : (E.nn x p)[j] = (((x.nr p).getD j 0 : Nat) : Int) := by rw [← E.nn_get, List.getD_eq_getElem?_getD, List.getElem?_eq_getElem hj', Option.getD_some]
  rw [List.take_add_one, List.getElem?_eq_getElem hj', Option.toList_some, e, ← Bool.decide_or]
  refine decide_eq_decide.2 ?_
  rw [List.mem_append, List.mem_singleton]
  exact ⟨fun h => h.imp_right Eq.symm, fun h => h.imp_right Eq.symm⟩
theorem fnd_cases {x : Bf.G} (ok : x.ok) {p j : Nat} {z : Int} (hp : p < x.n) (hj : (x.nr p).length ≤ j) : (fnd x p j z = true ∧ 0 ≤ z ∧ z < x.n ∧ z.toNat ∈ x.nr p) ∨ (fnd x p j z = false ∧ ¬ (0 ≤ z ∧ z.toNat ∈ x.nr p)) := by
  unfold fnd
  rw [List.take_of_length_le (by simpa using hj)]
  by_cases h : z ∈ E.nn x p
  · obtain ⟨q, h1, rfl⟩ := List.mem_map.1 h
    exact .inl ⟨decide_eq_true h, by omega, by have := ok.nrlt p q hp h1; omega, by simpa using h1⟩
  · refine .inr ⟨decide_eq_false h, fun h2 => h (List.mem_map.2 ⟨z.toNat, h2.2, by omega⟩)⟩
theorem steps_zero (x : Bf.G) (k0 : Nat) (l : List Int) : stepsOk x k0 l 0 := fun i hi => by omega
theorem steps_next {x : Bf.G} {k0 m : Nat} {l : List Int} (h : stepsOk x k0 l m) (h0 : 0 ≤ l.getD (m + 1) 0) (h1 : (l.getD (m + 1) 0).toNat ∈ x.nr (l.getD m 0).toNat) (h2 : x.al ((k0 + m + 1) % x.K) (l.getD (m + 1) 0).toNat = true) : stepsOk x k0 l (m + 1) := fun i hi => by
  rcases Nat.lt_succ_iff_lt_or_eq.1 hi with h' | rfl
  · exact h i h'
  · exact ⟨h0, h1, h2⟩
theorem walk_err {g : C} {t a b tick : Int} {l : List Int} (h : ¬ legE g t a b tick = 0) : walkR g t a b tick l = (false, legE g t a b tick) := if_neg h
theorem walk_many {g : C} {t a b tick : Int} {l : List Int} (h : legE g t a b tick = 0) (hl : ¬ l.length ≤ 1025) : walkR g t a b tick l = (false, 4) := (if_pos h).trans (if_neg hl)
theorem walk_no {g : C} {t a b tick : Int} {l : List Int} (h : legE g t a b tick = 0) (hl : l.length ≤ 1025) (hw : ¬ isWalk g t a b tick l) : walkR g t a b tick l = (false, 0) :=
  (if_pos h).trans ((if_pos hl).trans (Prod.ext (@decide_eq_false _ (_) hw) rfl))
theorem walk_yes {g : C} {t a b tick : Int} {l : List Int} (h : legE g t a b tick = 0) (hl : l.length ≤ 1025) (hw : isWalk g t a b tick l) : walkR g t a b tick l = (true, 0) :=
  (if_pos h).trans ((if_pos hl).trans (Prod.ext (@decide_eq_true _ (_) hw) rfl))
/-- the route, place by place. -/
structure RI (x : Bf.G) (N : Nat) (tick : Int) (a0 i p : Nat) (o : List Int) : Prop where
  hi : i ≤ N
  hp : p < x.n
  hc : x.cell p = true
  ha : Bf.arr x (phk x.K (tick + (i : Int))) p = ((N - i : Nat) : Int)
  ho : o ++ ((Bf.rt x (N - i) (phk x.K (tick + (i : Int))) p).tail.map fun (q : Nat) => (q : Int)) = (Bf.rt x N (phk x.K tick) a0).map fun (q : Nat) => (q : Int)
  hl : o.length = i + 1
theorem RI.start {x : Bf.G} {N : Nat} {tick : Int} {a0 : Nat} (hp : a0 < x.n) (hc : x.cell a0 = true) (ha : Bf.arr x (phk x.K tick) a0 = (N : Int)) : RI x N tick a0 0 a0 [(a0 : Int)] := by
  refine ⟨Nat.zero_le _, hp, hc, ?_, ?_, rfl⟩
  · simpa using ha
  · obtain ⟨r, hr⟩ := Bf.rt_head x N (phk x.K tick) a0
    simp only [Int.natCast_zero, Int.add_zero, Nat.sub_zero, hr]
    rfl
theorem RI.step {x : Bf.G} (ok : x.ok) (hK : 1 ≤ x.K) {N : Nat} {tick : Int} {a0 i p : Nat} {o : List Int} (h : RI x N tick a0 i p o) (hlt : i < N) :
    RI x N tick a0 (i + 1) (Bf.nx x (phk x.K (tick + (i : Int) + 1)) p ((N : Int) - (i : Int))) (o ++ [((Bf.nx x (phk x.K (tick + (i : Int) + 1)) p ((N : Int) - (i : Int)) : Nat) : Int)]) := by
  obtain ⟨m, hm⟩ : ∃ m, N - i = m + 1 := ⟨N - i - 1, by omega⟩
  have ha := h.ha
  rw [hm] at ha
  obtain ⟨h1, h2, h3⟩ := Bf.nx_ok ok (phk_lt hK (tick + (i : Int))) h.hp h.hc (m := m) (by rw [ha]; rfl)
  have e1 : ((N : Int) - (i : Int)) = (m : Int) + 1 := by omega
  have e2 := phk_succ hK (tick + (i : Int))
  have e3 : tick + ((i + 1 : Nat) : Int) = tick + (i : Int) + 1 := by omega
  have e4 : N - (i + 1) = m := by omega
  rw [e1, e2]
  refine ⟨hlt, ok.nrlt _ _ h.hp h1, ok.alc _ _ h2, ?_, ?_, by rw [List.length_append, h.hl]; rfl⟩
  · rw [e3, e2, e4]; exact h3
  · rw [e3, e2, e4]
    have ho := h.ho
    rw [hm] at ho
    rw [← ho]
    obtain ⟨r, hr⟩ := Bf.rt_head x m ((phk x.K (tick + (i : Int)) + 1) % x.K) (Bf.nx x ((phk x.K (tick + (i : Int)) + 1) % x.K) p ((m : Int) + 1))
    simp only [Bf.rt, List.tail_cons, hr, List.map_cons, List.append_assoc, List.cons_append, List.nil_append]
theorem RI.fin {x : Bf.G} {N : Nat} {tick : Int} {a0 p : Nat} {o : List Int} (h : RI x N tick a0 N p o) : o = (Bf.rt x N (phk x.K tick) a0).map fun (q : Nat) => (q : Int) := by
  have := h.ho
  rw [Nat.sub_self] at this
  simpa [Bf.rt] using this
theorem route_err {g : C} {t a b tick : Int} (h : ¬ (arrivalR g t a b tick).2 = 0) : routeR g t a b tick = ([], (arrivalR g t a b tick).2) := by
  unfold arrivalR at *
  unfold routeR
  by_cases h1 : legE g t a b tick = 0
  · rw [if_pos h1] at h
    rw [if_pos h1, if_pos h1]
    by_cases h2 : arrv g t a b tick < 0
    · rw [if_pos h2, if_pos h2]
    · rw [if_neg h2] at h; exact absurd rfl h
  · rw [if_neg h1, if_neg h1]
theorem route_ok {g : C} {t a b tick : Int} (h : (arrivalR g t a b tick).2 = 0) : legE g t a b tick = 0 ∧ (arrivalR g t a b tick).1 = arrv g t a b tick ∧ 0 ≤ arrv g t a b tick ∧ routeR g t a b tick = (rts g t a b tick, 0) := by
  unfold arrivalR at *
  unfold routeR
  by_cases h1 : legE g t a b tick = 0
  · rw [if_pos h1] at h ⊢
    by_cases h2 : arrv g t a b tick < 0
    · rw [if_pos h2] at h; exact absurd h (by decide)
    · rw [if_neg h2, if_pos h1, if_neg h2]; exact ⟨h1, rfl, by omega, rfl⟩
  · rw [if_neg h1] at h; exact absurd h h1
theorem arr_le {g : C} {t a b tick : Int} (hL : Leg g t a b) : arrv g t a b tick ≤ 1024 := by
  have hk := ph_lt hL.c tick
  have hp : a.toNat < (G g t a b).n := by have := hL.ra; show a.toNat < g.l.length; omega
  have h1 := len_le hL.c
  have h2 := (per_of hL.c).2
  rcases Bf.arr_ar (G_ok hL) (k := ph g tick) (p := a.toNat) hk hp (cell_from hL) with ⟨h, _⟩ | ⟨_, h, _⟩
  · unfold arrv; omega
  · have h3 : g.l.length * g.s.length ≤ 64 * 16 := Nat.mul_le_mul h1 h2
    have h4 : (((G g t a b).n : Int)) * (((G g t a b).K : Nat) : Int) = ((g.l.length * g.s.length : Nat) : Int) := by rw [Int.natCast_mul]; rfl
    unfold arrv
    omega
end Rt
namespace E
open Go Go.RowKit
section
variable {P : Program} {n : Fr} {w0 : World} {F : Nat → Prop} {K : Kt} {l : Env} {H : List HP} {o : Oper}
theorem PV.add_u64 {t t' : TypeId} {x y : Operand} {p q : Int} (ho : o.op = .binOp .add t x y t') (hx : ev l x = some (.int .u64 p)) (hy : ev l y = some (.int .u64 q)) (hr : 0 ≤ p + q ∧ p + q < 18446744073709551616) : PV P n w0 F l H o (.int .u64 (p + q)) := by
  have h := PV.add (P := P) (n := n) (w0 := w0) (F := F) (H := H) ho hx hy
  rwa [show IntKind.u64.wrap (p + q) = p + q by rw [IntKind.wrap_u64]; omega] at h
/-- a slice without its first element. -/
def tl (A : Option Addr) (c : Nat) : Option Addr := if c = 1 then A else A.map (·.add (1 * 1))
theorem PV.tail {t Et bytes m c : Nat} {x y : Operand} {z : Value} {A : Option Addr} (hT : P.underlying t = some (.slice Et)) (hI : In P Et z 1 bytes) (ho : o.op = .slice t x (some y) none none) (hx : ev l x = some (.slice A m c)) (hy : ev l y = some (.int .i64 1)) (hm : 1 ≤ m) :
    PV P n w0 F l H o (.slice (tl A c) (m - 1) (c - 1)) := fun a w ha _ => by
  obtain ⟨inf, hinf, hz0, hz1, hz2⟩ := hI.parts
  have hel : P.elem t = Et := by simp [Program.elem, hT]
  have hr := run_slice_l (P := P) w t A m c (by rw [hel]; exact hT) .i64 1 (by omega) (by omega)
  rw [hel] at hr
  have hsa := run_sliceAt_slice (P := P) w t (.slice A m c) (some (.int .i64 1)) none none (by rw [hel]; exact hT)
  simp [execOp, ho, ha.ev hx, ha.ev hy, hsa, hr, sizeOf, typeInfo, hinf, hz1, Result.andThen, sliced, tl]
theorem Rd.tail {w : World} {G : Nat → Prop} {A : Option Addr} {c : Nat} {l : List Int} (h : Rd w G A (ints l)) (hc : l.length ≤ c) : Rd w G (tl A c) (ints l.tail) := fun hx => by
  have hl : 1 < l.length := by simp at hx; omega
  obtain ⟨ad, h1, h2, h3⟩ := h (by simp; omega)
  subst h1
  unfold tl
  rw [if_neg (by omega)]
  refine ⟨ad.add (1 * 1), rfl, by rw [Addr.add_block]; exact h2, fun j u hu => ?_⟩
  rw [Addr.add_add']
  refine h3 (1 * 1 + j) u ?_
  rw [← hu]
  cases l with
  | nil => simp at hl
  | cons q r => simp [ints, Nat.add_comm]
theorem tail_get (l : List Int) (i : Nat) : l.tail.getD i 0 = l.getD (i + 1) 0 := by cases l <;> simp
end
end E
end Go.Proofs.Ytflkbabhbnmajaa

/- Closed facts on the program (printed by gen.py). -/
namespace Go.Proofs.Ytflkbabhbnmajaa
open Go Go.RowKit
set_option linter.unusedSimpArgs false
set_option linter.unusedVariables false
theorem is30 : E.Is Try.prog 30 2 := ⟨fun _ => by kernel_rfl, fun _ => by kernel_rfl⟩
theorem nm58 : E.Nm Try.prog 58 := ⟨Try.f58, Try.func58, rfl, by kernel_rfl⟩
theorem nm59 : E.Nm Try.prog 59 := ⟨Try.f59, Try.func59, rfl, by kernel_rfl⟩
theorem nm60 : E.Nm Try.prog 60 := ⟨Try.f60, Try.func60, rfl, by kernel_rfl⟩
end Go.Proofs.Ytflkbabhbnmajaa

/- Walks (printed by gen.py). -/
namespace Go.Proofs.Ytflkbabhbnmajaa
open Go Go.RowKit
set_option linter.unusedSimpArgs false
set_option linter.unusedVariables false

set_option maxRecDepth 100000 in
theorem ph_ok (y : E.Pl) (tick : Int) (w0 : World) (hr : y.rd0 w0 (E.Old w0)) (hK : 1 ≤ y.x.K ∧ y.x.K ≤ 16) (ht : 0 ≤ tick ∧ tick < 18446744073709551616) :
    Calls Try.prog 60 #[y.v, .int .u64 tick] w0 (E.Post w0 (E.Old w0) fun v Hn => v = .int .i64 ((Rt.phk y.x.K (tick) : Nat) : Int) ∧ Hn = []) := by
  have hm := Rt.phk_lt hK.1 tick
  have hm2 := Rt.phk_int hK.1 tick
  refine E.calls_of (vs := [y.v, .int .u64 tick]) (H := []) Try.func60 Try.ntmps60 rfl rfl (E.HA.start w0) ?_
  refine E.CW.seq ?_
  refine E.CW.region ?_
  refine E.OW.pure rfl rfl rfl (E.PV.assign rfl rfl) ?_
  refine E.OW.nil ?_
  refine E.then_n ?_
  refine E.CW.seq ?_
  refine E.CW.region ?_
  refine E.OW.pure rfl rfl rfl (E.PV.move rfl rfl) ?_
  refine E.OW.pure rfl rfl rfl (E.PV.move rfl rfl) ?_
  refine E.OW.pure rfl rfl rfl (E.PV.nilCheck rfl rfl) ?_
  refine E.OW.pure rfl rfl rfl (E.PV.fieldAddr fa93_0 rfl rfl) ?_
  refine E.OW.pure rfl rfl rfl (E.PV.load_at (E.p_b (E.sr0 hr)) na3 rfl rfl rfl) ?_
  refine E.OW.pure rfl rfl rfl (E.PV.conv_in Try.underlying3 Try.underlying26 rfl rfl ?_) ?_; (focus (first | exact E.wrap_u8 _ | (simp only [IntKind.wrap_i64, IntKind.wrap_u64, IntKind.wrap_u8]; omega)))
  refine E.OW.pure rfl rfl rfl (E.PV.rem_i64 rfl rfl rfl ?_ ?_) ?_; (focus (omega)); (focus (omega))
  refine E.OW.pure rfl rfl rfl (E.PV.conv_in Try.underlying26 Try.underlying3 rfl rfl ?_) ?_; (focus (first | exact E.wrap_u8 _ | (simp only [IntKind.wrap_i64, IntKind.wrap_u64, IntKind.wrap_u8]; omega)))
  refine E.OW.pure rfl rfl rfl (E.PV.assign rfl rfl) ?_
  refine E.OW.nil ?_
  refine E.then_n ?_
  refine E.CW.ret ?_
  refine E.KR.one [] Try.results60 rfl rfl ?_
  exact ⟨by rw [hm2], rfl⟩

set_option maxRecDepth 100000 in
theorem nx_ok (y : E.Pl) (D : Bf.DD) (p : Nat) (tick n : Int) (w0 : World) (hr : y.rd0 w0 (E.Old w0)) (hd : y.rdd w0 (E.Old w0) D) (hK : 1 ≤ y.x.K ∧ y.x.K ≤ 16) (hok : y.x.ok) (hD : ∀ k p, k < y.x.K → p < y.x.n → y.x.cell p = true → D k p = Bf.arr y.x k p) (hp : p < y.x.n) (ht : 0 ≤ tick ∧ tick < 10000000000000000000) (hn : 1 ≤ n ∧ n ≤ 2000) (hnl : (y.x.nr p).length ≤ 5) :
    Calls Try.prog 82 #[y.v, .int .i64 (p : Int), .int .u64 tick, .int .i64 n] w0 (E.Post w0 (E.Old w0) fun v Hn => v = .int .i64 ((Bf.nx y.x (Rt.phk y.x.K (tick + 1)) p n : Nat) : Int) ∧ Hn = []) := by
  have hkl := Rt.phk_lt hK.1 (tick + 1)
  refine E.calls_of (vs := [y.v, .int .i64 (p : Int), .int .u64 tick, .int .i64 n]) (H := []) Try.func82 Try.ntmps82 rfl rfl (E.HA.start w0) ?_
  refine E.CW.seq ?_
  refine E.CW.region ?_
  refine E.OW.pure rfl rfl rfl (E.PV.assign rfl rfl) ?_
  refine E.OW.nil ?_
  refine E.then_n ?_
  refine E.CW.seq ?_
  refine E.CW.region ?_
  refine E.OW.pure rfl rfl rfl (E.PV.move rfl rfl) ?_
  refine E.OW.pure rfl rfl rfl (E.PV.move rfl rfl) ?_
  refine E.OW.pure rfl rfl rfl (E.PV.add_u64 rfl rfl rfl ?_) ?_; (focus (omega))
  (refine E.OW.call nm60 rfl rfl rfl rfl rfl rfl _ (fun w hw => ph_ok y (tick + 1) w (hw.rd0 hr) hK (by omega)) ?_; rintro _ _ ⟨rfl, rfl⟩)
  refine E.OW.pure rfl rfl rfl (E.PV.assign rfl rfl) ?_
  refine E.OW.nil ?_
  refine E.then_n ?_
  refine E.CW.seq ?_
  refine E.CW.seq ?_
  refine E.CW.region ?_
  refine E.OW.pure rfl rfl rfl (E.PV.move rfl rfl) ?_
  refine E.OW.pure rfl rfl rfl (E.PV.nilCheck rfl rfl) ?_
  refine E.OW.pure rfl rfl rfl (E.PV.fieldAddr fa93_4 rfl rfl) ?_
  refine E.OW.pure rfl rfl rfl (E.PV.load_at (E.p_b (E.sr0 hr)) na91 rfl rfl rfl) ?_
  refine E.OW.pure rfl rfl rfl (E.PV.move rfl rfl) ?_
  refine E.OW.pure rfl rfl rfl (E.PV.indexAddr1 (E.p_n (E.sr0 hr)) Try.underlying91 in31 rfl rfl rfl rfl ?_ ?_) ?_; (focus (first | (simp; done) | (simp; omega))); (focus (omega))
  refine E.OW.pure rfl rfl rfl (E.PV.load_sn (E.p_n (E.sr0 hr)) na31 rfl rfl ?_) ?_; (focus (omega))
  refine E.OW.pure rfl rfl rfl (E.PV.len Try.underlying31 rfl rfl) ?_
  refine E.OW.pure rfl rfl rfl (E.PV.move rfl rfl) ?_
  refine E.OW.nil ?_
  refine E.then_n ?_
  refine E.CW.block ?_
  refine E.CW.loopk [0, 1, 3, 9, 22, 23] 0 rfl rfl (fun mm mods Hm => ∃ j : Nat, mm = (y.x.nr p).length - j ∧ mods = [(24, .int .i64 j)] ∧ Hm = [] ∧ (j ≤ (y.x.nr p).length ∧ ∀ i, i < j → (y.x.al (Rt.phk y.x.K (tick + 1)) ((y.x.nr p).getD i 0) && decide (Bf.arr y.x (Rt.phk y.x.K (tick + 1)) ((y.x.nr p).getD i 0) = n - 1)) = false)) ((y.x.nr p).length) ?_ ?_
  · exact ⟨[(24, _)], (by repeat (first | exact E.cov_nil | refine ⟨rfl, ?_⟩)), 0, rfl, rfl, rfl, by omega, fun i hi => by omega⟩
  · rintro _ _ _ ⟨j, rfl, rfl, rfl, hj, hI⟩
    refine E.CW.seq ?_
    refine E.CW.region ?_
    refine E.OW.pure rfl rfl rfl (E.PV.lss rfl rfl rfl) ?_
    refine E.OW.nil ?_
    refine E.then_n ?_
    refine E.CW.seq ?_
    refine E.CW.cond rfl (fun hc => ?_) (fun hc => ?_)
    · simp only [E.b0, E.b1, E.b2, E.b3, E.b4, E.b5, E.b6, E.b7, E.b8, E.b9, E.b10, E.b11, E.b12, E.b13, E.b14, E.b15, E.b16, E.b17, E.b18, E.b19, E.b20, reduceCtorEq] at hc
      all_goals (
        refine E.CW.skip ?_
        refine E.then_n ?_
        refine E.CW.seq ?_
        refine E.CW.block ?_
        refine E.CW.seq ?_
        have hin : ((y.x.nr p).getD j 0) ∈ y.x.nr p := Rt.getD_memN (by omega)
        have hqn := hok.nrlt _ _ hp hin
        have hDq : y.x.al (Rt.phk y.x.K (tick + 1)) ((y.x.nr p).getD j 0) = true → D (Rt.phk y.x.K (tick + 1)) ((y.x.nr p).getD j 0) = Bf.arr y.x (Rt.phk y.x.K (tick + 1)) ((y.x.nr p).getD j 0) := fun h => hD _ _ hkl hqn (hok.alc _ _ h)
        refine E.CW.region ?_
        refine E.OW.pure rfl rfl rfl (E.PV.indexAddr1 (E.p_nr (E.sr0 hr) ?_) Try.underlying31 in3 rfl rfl rfl rfl ?_ ?_) ?_; (focus (omega)); (focus (first | (simp; done) | (simp; omega))); (focus (omega))
        refine E.OW.pure rfl rfl rfl (E.PV.load_nn (E.p_nr (E.sr0 hr) ?_) na3 rfl rfl ?_) ?_; (focus (omega)); (focus (omega))
        refine E.OW.pure rfl rfl rfl (E.PV.assign rfl rfl) ?_
        refine E.OW.nil ?_
        refine E.then_n ?_
        refine E.CW.seq ?_
        refine E.CW.region ?_
        refine E.OW.pure rfl rfl rfl (E.PV.move rfl rfl) ?_
        refine E.OW.pure rfl rfl rfl (E.PV.nilCheck rfl rfl) ?_
        refine E.OW.pure rfl rfl rfl (E.PV.fieldAddr fa93_2 rfl rfl) ?_
        refine E.OW.pure rfl rfl rfl (E.PV.load_at (E.p_b (E.sr0 hr)) na90 rfl rfl rfl) ?_
        refine E.OW.pure rfl rfl rfl (E.PV.move rfl rfl) ?_
        refine E.OW.pure rfl rfl rfl (E.PV.indexAddr1 (E.p_a (E.sr0 hr)) Try.underlying90 in89 rfl rfl rfl rfl ?_ ?_) ?_; (focus (first | (simp; done) | (simp; omega))); (focus (omega))
        refine E.OW.pure rfl rfl rfl (E.PV.load_sc (E.p_a (E.sr0 hr)) na89 rfl rfl ?_) ?_; (focus (omega))
        refine E.OW.pure rfl rfl rfl (E.PV.move rfl rfl) ?_
        refine E.OW.pure rfl rfl rfl (E.PV.indexAddr1 (E.p_ar (E.sr0 hr) ?_) Try.underlying89 in4 rfl rfl rfl rfl ?_ ?_) ?_; (focus (omega)); (focus (first | (simp; done) | (simp; omega))); (focus (omega))
        refine E.OW.pure rfl rfl rfl (E.PV.load_bl (E.p_ar (E.sr0 hr) ?_) na4 rfl rfl ?_) ?_; (focus (omega)); (focus (omega))
        refine E.OW.pure rfl rfl rfl (E.PV.move rfl rfl) ?_
        all_goals (refine E.OW.split 38 rfl (fun hc => ?_) (fun hc => ?_) <;> (try simp only [E.b0, E.b1, E.b2, E.b3, E.b4, E.b5, E.b6, E.b7, E.b8, E.b9, E.b10, E.b11, E.b12, E.b13, E.b14, E.b15, E.b16, E.b17, E.b18, E.b19, E.b20, reduceCtorEq] at hc) <;> (try (exfalso; first | assumption | contradiction | omega)))
        all_goals (first | (refine E.OW.off rfl rfl rfl ?_) | (refine E.OW.pure rfl rfl rfl (E.PV.move rfl rfl) ?_))
        all_goals (first | (refine E.OW.off rfl rfl rfl ?_) | (refine E.OW.pure rfl rfl rfl (E.PV.nilCheck rfl rfl) ?_))
        all_goals (first | (refine E.OW.off rfl rfl rfl ?_) | (refine E.OW.pure rfl rfl rfl (E.PV.fieldAddr fa93_3 rfl rfl) ?_))
        all_goals (first | (refine E.OW.off rfl rfl rfl ?_) | (refine E.OW.pure rfl rfl rfl (E.PV.load_at (E.p_b (E.sr0 hr)) na91 rfl rfl rfl) ?_))
        all_goals (first | (refine E.OW.off rfl rfl rfl ?_) | (refine E.OW.pure rfl rfl rfl (E.PV.move rfl rfl) ?_))
        all_goals (first | (refine E.OW.off rfl rfl rfl ?_) | (refine E.OW.pure rfl rfl rfl (E.PV.indexAddr1 (E.p_d (E.sr0 hr)) Try.underlying91 in31 rfl rfl rfl rfl ?_ ?_) ?_; (focus (first | (simp; done) | (simp; omega))); (focus (omega))))
        all_goals (first | (refine E.OW.off rfl rfl rfl ?_) | (refine E.OW.pure rfl rfl rfl (E.PV.load_sc (E.p_d (E.sr0 hr)) na31 rfl rfl ?_) ?_; (focus (omega))))
        all_goals (first | (refine E.OW.off rfl rfl rfl ?_) | (refine E.OW.pure rfl rfl rfl (E.PV.move rfl rfl) ?_))
        all_goals (first | (refine E.OW.off rfl rfl rfl ?_) | (refine E.OW.pure rfl rfl rfl (E.PV.indexAddr1 (E.p_dr (E.srd hd) ?_) Try.underlying31 in3 rfl rfl rfl rfl ?_ ?_) ?_; (focus (omega)); (focus (first | (simp; done) | (simp; omega))); (focus (omega))))
        all_goals (first | (refine E.OW.off rfl rfl rfl ?_) | (refine E.OW.pure rfl rfl rfl (E.PV.load_ii (E.p_dr (E.srd hd) ?_) na3 rfl rfl ?_) ?_; (focus (omega)); (focus (omega))))
        all_goals (first | (refine E.OW.off rfl rfl rfl ?_) | (refine E.OW.pure rfl rfl rfl (E.PV.move rfl rfl) ?_))
        all_goals (first | (refine E.OW.off rfl rfl rfl ?_) | (refine E.OW.pure rfl rfl rfl (E.PV.sub_i64 rfl rfl rfl ?_) ?_; (focus (omega))))
        all_goals (first | (refine E.OW.off rfl rfl rfl ?_) | (refine E.OW.pure rfl rfl rfl (E.PV.eql rfl rfl rfl) ?_))
        all_goals (first | (refine E.OW.pure rfl rfl rfl (E.PV.pick_t rfl rfl rfl) ?_) | (refine E.OW.pure rfl rfl rfl (E.PV.pick_f rfl rfl rfl) ?_))
        all_goals (
          refine E.OW.nil ?_
          refine E.then_n ?_
          refine E.CW.cond rfl (fun hc => ?_) (fun hc => ?_)
          · first | ((cases hc; done)) | (simp only [E.b0, E.b1, E.b2, E.b3, E.b4, E.b5, E.b6, E.b7, E.b8, E.b9, E.b10, E.b11, E.b12, E.b13, E.b14, E.b15, E.b16, E.b17, E.b18, E.b19, E.b20, reduceCtorEq] at hc)
            all_goals (
              refine E.CW.seq ?_
              refine E.CW.region ?_
              refine E.OW.pure rfl rfl rfl (E.PV.move rfl rfl) ?_
              refine E.OW.pure rfl rfl rfl (E.PV.assign rfl rfl) ?_
              refine E.OW.nil ?_
              refine E.then_n ?_
              refine E.CW.ret ?_
              refine E.blk_ret ?_
              refine E.then_ret ?_
              refine E.then_ret ?_
              refine E.blk_ret ?_
              refine E.then_ret ?_
              refine E.KR.one [] Try.results82 rfl rfl ?_
              exact ⟨by rw [Bf.nx_at (by omega) hI (by simp_all)], rfl⟩)
          · simp only [E.b0, E.b1, E.b2, E.b3, E.b4, E.b5, E.b6, E.b7, E.b8, E.b9, E.b10, E.b11, E.b12, E.b13, E.b14, E.b15, E.b16, E.b17, E.b18, E.b19, E.b20, reduceCtorEq] at hc
            all_goals (
              refine E.CW.skip ?_
              refine E.blk_n ?_
              refine E.then_n ?_
              refine E.CW.region ?_
              refine E.OW.pure rfl rfl rfl (E.PV.add_i64 rfl rfl rfl ?_) ?_; (focus (omega))
              refine E.OW.pure rfl rfl rfl (E.PV.move rfl rfl) ?_
              refine E.OW.nil ?_
              refine E.then_nf ?_
              refine ⟨_, [(24, _)], [], _, ?_, by repeat (first | exact E.cov_nil | refine ⟨rfl, ?_⟩), rfl, j + 1, rfl, rfl, rfl, by omega, Rt.rng_all hI (by simp_all)⟩
              omega)))
    · simp only [E.b0, E.b1, E.b2, E.b3, E.b4, E.b5, E.b6, E.b7, E.b8, E.b9, E.b10, E.b11, E.b12, E.b13, E.b14, E.b15, E.b16, E.b17, E.b18, E.b19, E.b20, reduceCtorEq] at hc
      all_goals (
        refine E.CW.exit ?_
        refine E.then_x ?_
        refine E.then_x ?_
        refine E.blk_eq ?_
        refine E.then_n ?_
        refine E.CW.seq ?_
        refine E.CW.region ?_
        refine E.OW.pure rfl rfl rfl (E.PV.move rfl rfl) ?_
        refine E.OW.pure rfl rfl rfl (E.PV.assign rfl rfl) ?_
        refine E.OW.nil ?_
        refine E.then_n ?_
        refine E.CW.ret ?_
        refine E.KR.one [] Try.results82 rfl rfl ?_
        exact ⟨by rw [Bf.nx_none fun i hi => hI i (by omega)], rfl⟩)

end Go.Proofs.Ytflkbabhbnmajaa

/- Walks (printed by gen.py). -/
namespace Go.Proofs.Ytflkbabhbnmajaa
open Go Go.RowKit
set_option linter.unusedSimpArgs false
set_option linter.unusedVariables false

set_option maxRecDepth 100000 in
theorem Arv_ok (g : E.Cfg) (t a b tick : Int) (w0 : World) (hg : g.rd w0 (E.Old w0)) (hgf : g.q.fit) (ht : 0 ≤ tick ∧ tick < 18446744073709551616) :
    Calls Try.prog 39 #[g.v, .int .i64 t, .agg #[.int .i64 a, .int .i64 b], .int .u64 tick] w0 (E.Post w0 (E.Old w0) fun v Hn => v = .tuple #[.int .i64 (Rt.arrivalR g.q t a b tick).1, .int .i64 (Rt.arrivalR g.q t a b tick).2] ∧ Hn = []) := by
  obtain ⟨hX1, hX2, hX3, hX4⟩ := id hg
  have hgl := E.Cfg.fit_len hgf
  refine E.calls_of (vs := [g.v, .int .i64 t, .agg #[.int .i64 a, .int .i64 b], .int .u64 tick]) (H := []) Try.func39 Try.ntmps39 rfl rfl (E.HA.start w0) ?_
  refine E.CW.seq ?_
  refine E.CW.region ?_
  refine E.OW.box rfl rfl rfl rfl rfl rfl (fun B1 => ?_)
  refine E.OW.box rfl rfl rfl rfl rfl rfl (fun B2 => ?_)
  refine E.OW.pure rfl rfl rfl (E.PV.assign rfl rfl) ?_
  refine E.OW.pure rfl rfl rfl (E.PV.assign rfl rfl) ?_
  refine E.OW.nil ?_
  refine E.then_n ?_
  refine E.CW.seq ?_
  refine E.CW.seq ?_
  refine E.CW.region ?_
  refine E.OW.pure rfl rfl rfl (E.PV.loads (i := 1) is28 rfl rfl rfl rfl) ?_
  refine E.OW.pure rfl rfl rfl (E.PV.move rfl rfl) ?_
  refine E.OW.pure rfl rfl rfl (E.PV.loads (i := 0) is30 rfl rfl rfl rfl) ?_
  refine E.OW.pure rfl rfl rfl (E.PV.move rfl rfl) ?_
  (refine E.OW.call nm58 rfl rfl rfl rfl rfl rfl _ (fun w hw => Le_ok g t a b tick w ?_ ?_ ?_) ?_; (focus (refine hw.rdC ?_; assumption)); (focus (assumption)); (focus (assumption)); rintro _ _ ⟨rfl, rfl⟩)
  refine E.OW.pure rfl rfl rfl (E.PV.assign rfl rfl) ?_
  refine E.OW.nil ?_
  refine E.then_n ?_
  refine E.CW.seq ?_
  refine E.CW.region ?_
  refine E.OW.pure rfl rfl rfl (E.PV.move rfl rfl) ?_
  refine E.OW.pure rfl rfl rfl (E.PV.neq rfl rfl rfl) ?_
  refine E.OW.nil ?_
  refine E.then_n ?_
  refine E.CW.cond rfl (fun hc => ?_) (fun hc => ?_)
  · simp only [E.b0, E.b1, E.b2, E.b3, E.b4, E.b5, E.b6, E.b7, E.b8, E.b9, E.b10, E.b11, E.b12, E.b13, E.b14, E.b15, E.b16, E.b17, E.b18, E.b19, E.b20, reduceCtorEq] at hc
    all_goals (
      refine E.CW.seq ?_
      refine E.CW.region ?_
      refine E.OW.pure rfl rfl rfl (E.PV.move rfl rfl) ?_
      refine E.OW.pure rfl rfl rfl (E.PV.assign rfl rfl) ?_
      refine E.OW.pure rfl rfl rfl (E.PV.assign rfl rfl) ?_
      refine E.OW.nil ?_
      refine E.then_n ?_
      refine E.CW.ret ?_
      refine E.then_ret ?_
      refine E.KR.two [] Try.results39 rfl rfl rfl ?_
      exact ⟨by rw [Rt.arv_err (by assumption)], rfl⟩)
  · simp only [E.b0, E.b1, E.b2, E.b3, E.b4, E.b5, E.b6, E.b7, E.b8, E.b9, E.b10, E.b11, E.b12, E.b13, E.b14, E.b15, E.b16, E.b17, E.b18, E.b19, E.b20, reduceCtorEq] at hc
    all_goals (
      refine E.CW.skip ?_
      refine E.then_n ?_
      refine E.CW.seq ?_
      obtain ⟨hL, hlk⟩ := Rt.leg_of (show Rt.legE g.q t a b tick = 0 by assumption)
      refine E.CW.region ?_
      refine E.OW.pure rfl rfl rfl (E.PV.loads (i := 1) is28 rfl rfl rfl rfl) ?_
      refine E.OW.pure rfl rfl rfl (E.PV.move rfl rfl) ?_
      refine E.OW.pure rfl rfl rfl (E.PV.loads (i := 0) is30 rfl rfl rfl rfl) ?_
      (refine E.OW.call nm59 rfl rfl rfl rfl rfl rfl _ (fun w hw => np_ok g t a b w ?_ ?_ ?_) ?_; (focus (refine hw.rdC ?_; assumption)); (focus (assumption)); (focus (assumption)); rintro _ _ ⟨yP, DP, rfl, rfl, hyx, hyD⟩)
      refine E.OW.pure rfl rfl rfl (E.PV.assign rfl rfl) ?_
      refine E.OW.nil ?_
      have hyn : yP.x.n = g.l.length := by rw [hyx]; rfl
      have hyK : yP.x.K = g.s.length := by rw [hyx]; rfl
      have hn64 : g.l.length ≤ 64 := Rt.len_le hL.c
      have hs16 : 1 ≤ g.s.length ∧ g.s.length ≤ 16 := Rt.per_of hL.c
      have hra : 0 ≤ a ∧ a < (g.l.length : Int) := hL.ra
      have hok : yP.x.ok := by rw [hyx]; exact Rt.G_ok hL
      refine E.then_n ?_
      refine E.CW.seq ?_
      have hkl := Rt.phk_lt (show 1 ≤ yP.x.K by omega) tick
      refine E.CW.draw mixed (by kernel_rfl) ?_
      refine E.QW.pure rfl rfl rfl (E.PV.move rfl rfl) ?_
      refine E.QW.pure rfl rfl rfl (E.PV.nilCheck rfl rfl) ?_
      refine E.QW.pure rfl rfl rfl (E.PV.fieldAddr fa93_3 rfl rfl) ?_
      refine E.QW.pure rfl rfl rfl (E.PV.load_at (E.p_b (E.sr0p (i := 0) rfl)) na91 rfl rfl rfl) ?_
      refine E.QW.pure rfl rfl rfl (E.PV.move rfl rfl) ?_
      refine E.QW.pure rfl rfl rfl (E.PV.move rfl rfl) ?_
      (refine E.QW.call nm60 rfl rfl rfl rfl rfl rfl _ (fun w hw => E.Post.val (ph_ok yP tick w ?_ ?_ ?_)) ?_; (focus (exact E.sr0p (i := 0) rfl w hw)); (focus (omega)); (focus (assumption)))
      refine E.QW.pure rfl rfl rfl (E.PV.indexAddr1 (E.p_d (E.sr0p (i := 0) rfl)) Try.underlying91 in31 rfl rfl rfl rfl ?_ ?_) ?_; (focus (first | (simp; done) | (simp; omega))); (focus (omega))
      refine E.QW.pure rfl rfl rfl (E.PV.load_sc (E.p_d (E.sr0p (i := 0) rfl)) na31 rfl rfl ?_) ?_; (focus (omega))
      refine E.QW.pure rfl rfl rfl (E.PV.fieldAddr fa30_0 rfl rfl) ?_
      refine E.QW.pure rfl rfl rfl (E.PV.load (i := 1) na3 rfl rfl rfl rfl) ?_
      refine E.QW.pure rfl rfl rfl (E.PV.indexAddr1 (E.p_dr (E.srdp (i := 0) rfl) ?_) Try.underlying31 in3 rfl rfl rfl (E.tn ?_) ?_ ?_) ?_; (focus (omega)); (focus (omega)); (focus (first | (simp; done) | (simp; omega))); (focus (omega))
      refine E.QW.pure rfl rfl rfl (E.PV.load_ii (E.p_dr (E.srdp (i := 0) rfl) ?_) na3 rfl rfl ?_) ?_; (focus (omega)); (focus (omega))
      refine E.QW.pure rfl rfl rfl (E.PV.assign rfl rfl) ?_
      refine E.QW.nil ?_
      refine E.then_n ?_
      refine E.CW.seq ?_
      refine E.CW.seq ?_
      have hA := Rt.plan_arr hL hyx hyD (tick := tick)
      refine E.CW.region ?_
      refine E.OW.pure rfl rfl rfl (E.PV.move rfl rfl) ?_
      refine E.OW.pure rfl rfl rfl (E.PV.lss rfl rfl rfl) ?_
      refine E.OW.nil ?_
      refine E.then_n ?_
      refine E.CW.cond rfl (fun hc => ?_) (fun hc => ?_)
      · simp only [E.b0, E.b1, E.b2, E.b3, E.b4, E.b5, E.b6, E.b7, E.b8, E.b9, E.b10, E.b11, E.b12, E.b13, E.b14, E.b15, E.b16, E.b17, E.b18, E.b19, E.b20, reduceCtorEq] at hc
        all_goals (
          refine E.CW.seq ?_
          refine E.CW.region ?_
          refine E.OW.pure rfl rfl rfl (E.PV.assign rfl rfl) ?_
          refine E.OW.pure rfl rfl rfl (E.PV.assign rfl rfl) ?_
          refine E.OW.nil ?_
          refine E.then_n ?_
          refine E.CW.ret ?_
          refine E.then_ret ?_
          refine E.KR.two [] Try.results39 rfl rfl rfl ?_
          exact ⟨by rw [Rt.arv_of (by assumption), if_pos (by omega)], rfl⟩)
      · simp only [E.b0, E.b1, E.b2, E.b3, E.b4, E.b5, E.b6, E.b7, E.b8, E.b9, E.b10, E.b11, E.b12, E.b13, E.b14, E.b15, E.b16, E.b17, E.b18, E.b19, E.b20, reduceCtorEq] at hc
        all_goals (
          refine E.CW.skip ?_
          refine E.then_n ?_
          refine E.CW.seq ?_
          refine E.CW.region ?_
          refine E.OW.pure rfl rfl rfl (E.PV.move rfl rfl) ?_
          refine E.OW.pure rfl rfl rfl (E.PV.assign rfl rfl) ?_
          refine E.OW.pure rfl rfl rfl (E.PV.assign rfl rfl) ?_
          refine E.OW.nil ?_
          refine E.then_n ?_
          refine E.CW.ret ?_
          refine E.KR.two [] Try.results39 rfl rfl rfl ?_
          exact ⟨by rw [Rt.arv_of (by assumption), if_neg (by omega), hA], rfl⟩))

set_option maxRecDepth 100000 in
theorem Fr_ok (g : E.Cfg) (t a b p tick : Int) (w0 : World) (hg : g.rd w0 (E.Old w0)) (hgf : g.q.fit) (ht : 0 ≤ tick ∧ tick < 18446744073709551616) :
    Calls Try.prog 35 #[g.v, .int .i64 t, .agg #[.int .i64 a, .int .i64 b], .int .i64 p, .int .u64 tick] w0 (E.Post w0 (E.Old w0) fun v Hn => v = .tuple #[.bool (Rt.freeR g.q t a b p tick).1, .int .i64 (Rt.freeR g.q t a b p tick).2] ∧ Hn = []) := by
  obtain ⟨hX1, hX2, hX3, hX4⟩ := id hg
  have hgl := E.Cfg.fit_len hgf
  refine E.calls_of (vs := [g.v, .int .i64 t, .agg #[.int .i64 a, .int .i64 b], .int .i64 p, .int .u64 tick]) (H := []) Try.func35 Try.ntmps35 rfl rfl (E.HA.start w0) ?_
  refine E.CW.seq ?_
  refine E.CW.region ?_
  refine E.OW.box rfl rfl rfl rfl rfl rfl (fun B1 => ?_)
  refine E.OW.box rfl rfl rfl rfl rfl rfl (fun B2 => ?_)
  refine E.OW.pure rfl rfl rfl (E.PV.assign rfl rfl) ?_
  refine E.OW.pure rfl rfl rfl (E.PV.assign rfl rfl) ?_
  refine E.OW.nil ?_
  refine E.then_n ?_
  refine E.CW.seq ?_
  refine E.CW.seq ?_
  refine E.CW.region ?_
  refine E.OW.pure rfl rfl rfl (E.PV.loads (i := 1) is28 rfl rfl rfl rfl) ?_
  refine E.OW.pure rfl rfl rfl (E.PV.move rfl rfl) ?_
  refine E.OW.pure rfl rfl rfl (E.PV.loads (i := 0) is30 rfl rfl rfl rfl) ?_
  refine E.OW.pure rfl rfl rfl (E.PV.move rfl rfl) ?_
  (refine E.OW.call nm58 rfl rfl rfl rfl rfl rfl _ (fun w hw => Le_ok g t a b tick w ?_ ?_ ?_) ?_; (focus (refine hw.rdC ?_; assumption)); (focus (assumption)); (focus (assumption)); rintro _ _ ⟨rfl, rfl⟩)
  refine E.OW.pure rfl rfl rfl (E.PV.assign rfl rfl) ?_
  refine E.OW.nil ?_
  refine E.then_n ?_
  refine E.CW.seq ?_
  refine E.CW.region ?_
  refine E.OW.pure rfl rfl rfl (E.PV.move rfl rfl) ?_
  refine E.OW.pure rfl rfl rfl (E.PV.neq rfl rfl rfl) ?_
  refine E.OW.nil ?_
  refine E.then_n ?_
  refine E.CW.cond rfl (fun hc => ?_) (fun hc => ?_)
  · simp only [E.b0, E.b1, E.b2, E.b3, E.b4, E.b5, E.b6, E.b7, E.b8, E.b9, E.b10, E.b11, E.b12, E.b13, E.b14, E.b15, E.b16, E.b17, E.b18, E.b19, E.b20, reduceCtorEq] at hc
    all_goals (
      refine E.CW.seq ?_
      refine E.CW.region ?_
      refine E.OW.pure rfl rfl rfl (E.PV.move rfl rfl) ?_
      refine E.OW.pure rfl rfl rfl (E.PV.assign rfl rfl) ?_
      refine E.OW.pure rfl rfl rfl (E.PV.assign rfl rfl) ?_
      refine E.OW.nil ?_
      refine E.then_n ?_
      refine E.CW.ret ?_
      refine E.then_ret ?_
      refine E.KR.two [] Try.results35 rfl rfl rfl ?_
      exact ⟨by rw [show Rt.freeR g.q t a b p tick = (false, Rt.legE g.q t a b tick) from if_neg (by assumption)], rfl⟩)
  · simp only [E.b0, E.b1, E.b2, E.b3, E.b4, E.b5, E.b6, E.b7, E.b8, E.b9, E.b10, E.b11, E.b12, E.b13, E.b14, E.b15, E.b16, E.b17, E.b18, E.b19, E.b20, reduceCtorEq] at hc
    all_goals (
      refine E.CW.skip ?_
      refine E.then_n ?_
      refine E.CW.seq ?_
      refine E.CW.seq ?_
      obtain ⟨hL, hlk⟩ := Rt.leg_of (show Rt.legE g.q t a b tick = 0 by assumption)
      refine E.CW.region ?_
      refine E.OW.pure rfl rfl rfl (E.PV.move rfl rfl) ?_
      refine E.OW.pure rfl rfl rfl (E.PV.lss rfl rfl rfl) ?_
      refine E.OW.pure rfl rfl rfl (E.PV.move rfl rfl) ?_
      all_goals (refine E.OW.split 24 rfl (fun hc => ?_) (fun hc => ?_) <;> (try simp only [E.b0, E.b1, E.b2, E.b3, E.b4, E.b5, E.b6, E.b7, E.b8, E.b9, E.b10, E.b11, E.b12, E.b13, E.b14, E.b15, E.b16, E.b17, E.b18, E.b19, E.b20, reduceCtorEq] at hc) <;> (try (exfalso; first | assumption | contradiction | omega)))
      all_goals (first | (refine E.OW.off rfl rfl rfl ?_) | (refine E.OW.pure rfl rfl rfl (E.PV.move rfl rfl) ?_))
      all_goals (first | (refine E.OW.off rfl rfl rfl ?_) | (refine E.OW.pure rfl rfl rfl (E.PV.fieldAddr fa28_0 rfl rfl) ?_))
      all_goals (first | (refine E.OW.off rfl rfl rfl ?_) | (refine E.OW.pure rfl rfl rfl (E.PV.fieldAddr fa24_2 rfl rfl) ?_))
      all_goals (first | (refine E.OW.off rfl rfl rfl ?_) | (refine E.OW.pure rfl rfl rfl (E.PV.load (i := 1) na22 rfl rfl rfl rfl) ?_))
      all_goals (first | (refine E.OW.off rfl rfl rfl ?_) | (refine E.OW.pure rfl rfl rfl (E.PV.len Try.underlying22 rfl rfl) ?_))
      all_goals (first | (refine E.OW.off rfl rfl rfl ?_) | (refine E.OW.pure rfl rfl rfl (E.PV.geq rfl rfl rfl) ?_))
      all_goals (first | (refine E.OW.pure rfl rfl rfl (E.PV.pick_t rfl rfl rfl) ?_) | (refine E.OW.pure rfl rfl rfl (E.PV.pick_f rfl rfl rfl) ?_))
      all_goals (
        refine E.OW.nil ?_
        refine E.then_n ?_
        refine E.CW.cond rfl (fun hc => ?_) (fun hc => ?_)
        · simp only [E.b0, E.b1, E.b2, E.b3, E.b4, E.b5, E.b6, E.b7, E.b8, E.b9, E.b10, E.b11, E.b12, E.b13, E.b14, E.b15, E.b16, E.b17, E.b18, E.b19, E.b20, reduceCtorEq] at hc
          all_goals (
            refine E.CW.seq ?_
            refine E.CW.region ?_
            refine E.OW.pure rfl rfl rfl (E.PV.assign rfl rfl) ?_
            refine E.OW.pure rfl rfl rfl (E.PV.assign rfl rfl) ?_
            refine E.OW.nil ?_
            refine E.then_n ?_
            refine E.CW.ret ?_
            refine E.then_ret ?_
            refine E.KR.two [] Try.results35 rfl rfl rfl ?_
            exact ⟨by rw [show Rt.freeR g.q t a b p tick = (false, 2) from (if_pos (by assumption)).trans (if_neg (by show ¬ (0 ≤ p ∧ p < (g.l.length : Int)); omega))], rfl⟩)
        · first | ((cases hc; done)) | (simp only [E.b0, E.b1, E.b2, E.b3, E.b4, E.b5, E.b6, E.b7, E.b8, E.b9, E.b10, E.b11, E.b12, E.b13, E.b14, E.b15, E.b16, E.b17, E.b18, E.b19, E.b20, reduceCtorEq] at hc)
          all_goals (
            refine E.CW.skip ?_
            refine E.then_n ?_
            refine E.CW.seq ?_
            refine E.CW.region ?_
            refine E.OW.pure rfl rfl rfl (E.PV.loads (i := 1) is28 rfl rfl rfl rfl) ?_
            refine E.OW.pure rfl rfl rfl (E.PV.move rfl rfl) ?_
            refine E.OW.pure rfl rfl rfl (E.PV.loads (i := 0) is30 rfl rfl rfl rfl) ?_
            (refine E.OW.call nm59 rfl rfl rfl rfl rfl rfl _ (fun w hw => np_ok g t a b w ?_ ?_ ?_) ?_; (focus (refine hw.rdC ?_; assumption)); (focus (assumption)); (focus (assumption)); rintro _ _ ⟨yP, DP, rfl, rfl, hyx, hyD⟩)
            refine E.OW.pure rfl rfl rfl (E.PV.assign rfl rfl) ?_
            refine E.OW.nil ?_
            have hyn : yP.x.n = g.l.length := by rw [hyx]; rfl
            have hyK : yP.x.K = g.s.length := by rw [hyx]; rfl
            have hn64 : g.l.length ≤ 64 := Rt.len_le hL.c
            have hs16 : 1 ≤ g.s.length ∧ g.s.length ≤ 16 := Rt.per_of hL.c
            have hra : 0 ≤ a ∧ a < (g.l.length : Int) := hL.ra
            have hok : yP.x.ok := by rw [hyx]; exact Rt.G_ok hL
            refine E.then_n ?_
            refine E.CW.seq ?_
            have hkl := Rt.phk_lt (show 1 ≤ yP.x.K by omega) tick
            refine E.CW.draw mixed (by kernel_rfl) ?_
            refine E.QW.pure rfl rfl rfl (E.PV.move rfl rfl) ?_
            refine E.QW.pure rfl rfl rfl (E.PV.nilCheck rfl rfl) ?_
            refine E.QW.pure rfl rfl rfl (E.PV.fieldAddr fa93_2 rfl rfl) ?_
            refine E.QW.pure rfl rfl rfl (E.PV.load_at (E.p_b (E.sr0p (i := 0) rfl)) na90 rfl rfl rfl) ?_
            refine E.QW.pure rfl rfl rfl (E.PV.move rfl rfl) ?_
            refine E.QW.pure rfl rfl rfl (E.PV.move rfl rfl) ?_
            (refine E.QW.call nm60 rfl rfl rfl rfl rfl rfl _ (fun w hw => E.Post.val (ph_ok yP tick w ?_ ?_ ?_)) ?_; (focus (exact E.sr0p (i := 0) rfl w hw)); (focus (omega)); (focus (assumption)))
            refine E.QW.pure rfl rfl rfl (E.PV.indexAddr1 (E.p_a (E.sr0p (i := 0) rfl)) Try.underlying90 in89 rfl rfl rfl rfl ?_ ?_) ?_; (focus (first | (simp; done) | (simp; omega))); (focus (omega))
            refine E.QW.pure rfl rfl rfl (E.PV.load_sc (E.p_a (E.sr0p (i := 0) rfl)) na89 rfl rfl ?_) ?_; (focus (omega))
            refine E.QW.pure rfl rfl rfl (E.PV.move rfl rfl) ?_
            refine E.QW.pure rfl rfl rfl (E.PV.indexAddr1 (E.p_ar (E.sr0p (i := 0) rfl) ?_) Try.underlying89 in4 rfl rfl rfl (E.tn ?_) ?_ ?_) ?_; (focus (omega)); (focus (omega)); (focus (first | (simp; done) | (simp; omega))); (focus (omega))
            refine E.QW.pure rfl rfl rfl (E.PV.load_bl (E.p_ar (E.sr0p (i := 0) rfl) ?_) na4 rfl rfl ?_) ?_; (focus (omega)); (focus (omega))
            refine E.QW.pure rfl rfl rfl (E.PV.assign rfl rfl) ?_
            refine E.QW.pure rfl rfl rfl (E.PV.assign rfl rfl) ?_
            refine E.QW.nil ?_
            refine E.then_n ?_
            refine E.CW.ret ?_
            refine E.KR.two [] Try.results35 rfl rfl rfl ?_
            exact ⟨by rw [show Rt.freeR g.q t a b p tick = ((Rt.G g.q t a b).al (Rt.ph g.q tick) p.toNat, 0) from (if_pos (by assumption)).trans (if_pos (by show (0 ≤ p ∧ p < (g.l.length : Int)); omega)), hyx]; rfl, rfl⟩)))

set_option maxRecDepth 100000 in
theorem Tb_ok (g : E.Cfg) (t a b : Int) (w0 : World) (hg : g.rd w0 (E.Old w0)) (hgf : g.q.fit) :
    Calls Try.prog 23 #[g.v, .int .i64 t, .agg #[.int .i64 a, .int .i64 b]] w0 (E.Post w0 (E.Old w0) fun v Hn => ∃ A2 c2, v = .tuple #[.slice A2 ((Rt.tableR g.q t a b).1).length c2, .int .i64 (Rt.tableR g.q t a b).2] ∧ Hn = [E.HP.row 3 1 A2 ((Rt.tableR g.q t a b).1).length c2 (E.ints ((Rt.tableR g.q t a b).1))]) := by
  obtain ⟨hX1, hX2, hX3, hX4⟩ := id hg
  have hgl := E.Cfg.fit_len hgf
  refine E.calls_of (vs := [g.v, .int .i64 t, .agg #[.int .i64 a, .int .i64 b]]) (H := []) Try.func23 Try.ntmps23 rfl rfl (E.HA.start w0) ?_
  refine E.CW.seq ?_
  refine E.CW.region ?_
  refine E.OW.box rfl rfl rfl rfl rfl rfl (fun B1 => ?_)
  refine E.OW.box rfl rfl rfl rfl rfl rfl (fun B2 => ?_)
  refine E.OW.pure rfl rfl rfl (E.PV.assign rfl rfl) ?_
  refine E.OW.pure rfl rfl rfl (E.PV.assign rfl rfl) ?_
  refine E.OW.nil ?_
  refine E.then_n ?_
  refine E.CW.seq ?_
  refine E.CW.seq ?_
  refine E.CW.region ?_
  refine E.OW.pure rfl rfl rfl (E.PV.loads (i := 1) is28 rfl rfl rfl rfl) ?_
  refine E.OW.pure rfl rfl rfl (E.PV.move rfl rfl) ?_
  refine E.OW.pure rfl rfl rfl (E.PV.loads (i := 0) is30 rfl rfl rfl rfl) ?_
  (refine E.OW.call nm58 rfl rfl rfl rfl rfl rfl _ (fun w hw => Le_ok g t a b 0 w ?_ ?_ ?_) ?_; (focus (refine hw.rdC ?_; assumption)); (focus (assumption)); (focus (omega)); rintro _ _ ⟨rfl, rfl⟩)
  refine E.OW.pure rfl rfl rfl (E.PV.assign rfl rfl) ?_
  refine E.OW.nil ?_
  refine E.then_n ?_
  refine E.CW.seq ?_
  refine E.CW.region ?_
  refine E.OW.pure rfl rfl rfl (E.PV.move rfl rfl) ?_
  refine E.OW.pure rfl rfl rfl (E.PV.neq rfl rfl rfl) ?_
  refine E.OW.nil ?_
  refine E.then_n ?_
  refine E.CW.cond rfl (fun hc => ?_) (fun hc => ?_)
  · simp only [E.b0, E.b1, E.b2, E.b3, E.b4, E.b5, E.b6, E.b7, E.b8, E.b9, E.b10, E.b11, E.b12, E.b13, E.b14, E.b15, E.b16, E.b17, E.b18, E.b19, E.b20, reduceCtorEq] at hc
    all_goals (
      refine E.CW.seq ?_
      refine E.CW.nilrow 3 1 ?_
      refine E.CW.region ?_
      refine E.OW.pure rfl rfl rfl (E.PV.move rfl rfl) ?_
      refine E.OW.pure rfl rfl rfl (E.PV.assign rfl rfl) ?_
      refine E.OW.pure rfl rfl rfl (E.PV.assign rfl rfl) ?_
      refine E.OW.nil ?_
      refine E.then_n ?_
      refine E.CW.ret ?_
      refine E.then_ret ?_
      refine E.KR.two [0] Try.results23 rfl rfl rfl ?_
      rw [show Rt.tableR g.q t a b = ([], Rt.legE g.q t a b 0) from if_neg (by assumption)]
      exact ⟨none, 0, rfl, rfl⟩)
  · simp only [E.b0, E.b1, E.b2, E.b3, E.b4, E.b5, E.b6, E.b7, E.b8, E.b9, E.b10, E.b11, E.b12, E.b13, E.b14, E.b15, E.b16, E.b17, E.b18, E.b19, E.b20, reduceCtorEq] at hc
    all_goals (
      refine E.CW.skip ?_
      refine E.then_n ?_
      refine E.CW.seq ?_
      refine E.CW.region ?_
      refine E.OW.pure rfl rfl rfl (E.PV.assign rfl rfl) ?_
      refine E.OW.nil ?_
      refine E.then_n ?_
      refine E.CW.seq ?_
      refine E.CW.seq ?_
      obtain ⟨hL, hlk⟩ := Rt.leg_of (show Rt.legE g.q t a b 0 = 0 by assumption)
      refine E.CW.nilrow 3 1 ?_
      refine E.CW.region ?_
      refine E.OW.pure rfl rfl rfl (E.PV.loads (i := 2) is28 rfl rfl rfl rfl) ?_
      refine E.OW.pure rfl rfl rfl (E.PV.move rfl rfl) ?_
      refine E.OW.pure rfl rfl rfl (E.PV.loads (i := 1) is30 rfl rfl rfl rfl) ?_
      (refine E.OW.call nm59 rfl rfl rfl rfl rfl rfl _ (fun w hw => np_ok g t a b w ?_ ?_ ?_) ?_; (focus (refine hw.rdC ?_; assumption)); (focus (assumption)); (focus (assumption)); rintro _ _ ⟨yP, DP, rfl, rfl, hyx, hyD⟩)
      refine E.OW.pure rfl rfl rfl (E.PV.nilCheck rfl rfl) ?_
      refine E.OW.pure rfl rfl rfl (E.PV.fieldAddr fa93_3 rfl rfl) ?_
      refine E.OW.pure rfl rfl rfl (E.PV.load_at (E.p_b (E.sr0p (i := 0) rfl)) na91 rfl rfl rfl) ?_
      refine E.OW.pure rfl rfl rfl (E.PV.len Try.underlying91 rfl rfl) ?_
      refine E.OW.pure rfl rfl rfl (E.PV.move rfl rfl) ?_
      refine E.OW.nil ?_
      have hyn : yP.x.n = g.l.length := by rw [hyx]; rfl
      have hyK : yP.x.K = g.s.length := by rw [hyx]; rfl
      have hn64 : g.l.length ≤ 64 := Rt.len_le hL.c
      have hs16 : 1 ≤ g.s.length ∧ g.s.length ≤ 16 := Rt.per_of hL.c
      have hra : 0 ≤ a ∧ a < (g.l.length : Int) := hL.ra
      have hok : yP.x.ok := by rw [hyx]; exact Rt.G_ok hL
      refine E.then_n ?_
      refine E.CW.block ?_
      refine E.CW.sels [1, 0, 0, 0] rfl ?_
      refine E.CW.loopk [5, 25, 26] 1 rfl rfl (fun mm mods Hm => ∃ k : Nat, ∃ A : Option Addr, ∃ e : Nat, mm = yP.x.K - k ∧ mods = [(27, .int .i64 k), (9, .slice A (Rt.tbl DP a.toNat k).length e)] ∧ Hm = [E.HP.row 3 1 A (Rt.tbl DP a.toNat k).length e (E.ints (Rt.tbl DP a.toNat k))] ∧ k ≤ yP.x.K) (yP.x.K) ?_ ?_
      · exact ⟨[(27, _), (9, _)], (by repeat (first | exact E.cov_nil | refine ⟨rfl, ?_⟩)), 0, none, 0, rfl, rfl, rfl, by omega⟩
      · rintro _ _ _ ⟨k, A, e, rfl, rfl, rfl, hk⟩
        have hpl := Rt.tbl_len DP a.toNat k
        refine E.CW.seq ?_
        refine E.CW.region ?_
        refine E.OW.pure rfl rfl rfl (E.PV.lss rfl rfl rfl) ?_
        refine E.OW.nil ?_
        refine E.then_n ?_
        refine E.CW.seq ?_
        refine E.CW.cond rfl (fun hc => ?_) (fun hc => ?_)
        · simp only [E.b0, E.b1, E.b2, E.b3, E.b4, E.b5, E.b6, E.b7, E.b8, E.b9, E.b10, E.b11, E.b12, E.b13, E.b14, E.b15, E.b16, E.b17, E.b18, E.b19, E.b20, reduceCtorEq] at hc
          all_goals (
            refine E.CW.skip ?_
            refine E.then_n ?_
            refine E.CW.seq ?_
            refine E.CW.block ?_
            refine E.CW.seq ?_
            refine E.CW.region ?_
            refine E.OW.pure rfl rfl rfl (E.PV.indexAddr1 (E.p_d (E.sr0p (i := 1) rfl)) Try.underlying91 in31 rfl rfl rfl rfl ?_ ?_) ?_; (focus (first | (simp; done) | (simp; omega))); (focus (omega))
            refine E.OW.pure rfl rfl rfl (E.PV.load_sc (E.p_d (E.sr0p (i := 1) rfl)) na31 rfl rfl ?_) ?_; (focus (omega))
            refine E.OW.pure rfl rfl rfl (E.PV.assign rfl rfl) ?_
            refine E.OW.nil ?_
            refine E.then_n ?_
            refine E.CW.region ?_
            refine E.OW.pure rfl rfl rfl (E.PV.move rfl rfl) ?_
            refine E.OW.pure rfl rfl rfl (E.PV.move rfl rfl) ?_
            refine E.OW.pure rfl rfl rfl (E.PV.fieldAddr fa30_0 rfl rfl) ?_
            refine E.OW.pure rfl rfl rfl (E.PV.load (i := 2) na3 rfl rfl rfl rfl) ?_
            refine E.OW.pure rfl rfl rfl (E.PV.indexAddr1 (E.p_dr (E.srdp (i := 1) rfl) ?_) Try.underlying31 in3 rfl rfl rfl (E.tn ?_) ?_ ?_) ?_; (focus (omega)); (focus (omega)); (focus (first | (simp; done) | (simp; omega))); (focus (omega))
            refine E.OW.pure rfl rfl rfl (E.PV.load_ii (E.p_dr (E.srdp (i := 1) rfl) ?_) na3 rfl rfl ?_) ?_; (focus (omega)); (focus (omega))
            refine E.OW.buildSlice (Et := 3) (sz := 1) (ps := [(0, .tmp 36)]) rfl rfl rfl rfl rfl (by simp) (by unfold maxLen; omega) (fun w => bsl31_1_0 _ w) (fun A3 => ?_)
            refine E.OW.app_int1 (j := 0) (i := 0) Try.underlying31 in3 rfl rfl rfl rfl rfl rfl rfl rfl rfl rfl ?_ (fun A4 c4 => ?_); (focus ((first | omega | (simp only [List.length_append, List.length_cons, List.length_nil] at *; omega) | (unfold maxLen at *; omega))))
            refine E.OW.pure rfl rfl rfl (E.PV.assign rfl rfl) ?_
            refine E.OW.nil ?_
            refine E.blk_n ?_
            refine E.then_n ?_
            refine E.CW.region ?_
            refine E.OW.pure rfl rfl rfl (E.PV.add_i64 rfl rfl rfl ?_) ?_; (focus (omega))
            refine E.OW.pure rfl rfl rfl (E.PV.move rfl rfl) ?_
            refine E.OW.nil ?_
            refine E.then_nf ?_
            refine ⟨_, [(27, _), (9, _)], [0, 0, 0, 0], [_], ?_, by repeat (first | exact E.cov_nil | refine ⟨rfl, ?_⟩), rfl, k + 1, A4, c4, rfl, by rw [Rt.tbl_succ]; rfl, by rw [Rt.tbl_succ], by omega⟩
            omega)
        · simp only [E.b0, E.b1, E.b2, E.b3, E.b4, E.b5, E.b6, E.b7, E.b8, E.b9, E.b10, E.b11, E.b12, E.b13, E.b14, E.b15, E.b16, E.b17, E.b18, E.b19, E.b20, reduceCtorEq] at hc
          all_goals (
            refine E.CW.exit ?_
            refine E.then_x ?_
            refine E.then_x ?_
            refine E.blk_eq ?_
            refine E.then_n ?_
            refine E.CW.seq ?_
            refine E.CW.region ?_
            refine E.OW.pure rfl rfl rfl (E.PV.move rfl rfl) ?_
            refine E.OW.pure rfl rfl rfl (E.PV.assign rfl rfl) ?_
            refine E.OW.pure rfl rfl rfl (E.PV.assign rfl rfl) ?_
            refine E.OW.nil ?_
            refine E.then_n ?_
            refine E.CW.ret ?_
            refine E.KR.two [0] Try.results23 rfl rfl rfl ?_
            obtain rfl : k = yP.x.K := by omega
            rw [show Rt.tableR g.q t a b = (Rt.tbl DP a.toNat yP.x.K, 0) from by rw [Rt.tbl_all fun i hi => Rt.plan_at hL hyx hyD hi, hyx]; exact if_pos (by assumption)]
            exact ⟨_, _, rfl, rfl⟩))
end Go.Proofs.Ytflkbabhbnmajaa

/- Closed facts on the program (printed by gen.py). -/
namespace Go.Proofs.Ytflkbabhbnmajaa
open Go Go.RowKit
set_option linter.unusedSimpArgs false
set_option linter.unusedVariables false
theorem nm39 : E.Nm Try.prog 39 := ⟨Try.f39, Try.func39, rfl, by kernel_rfl⟩
theorem nm40 : E.Nm Try.prog 40 := ⟨Try.f40, Try.func40, rfl, by kernel_rfl⟩
theorem nm82 : E.Nm Try.prog 82 := ⟨Try.f82, Try.func82, rfl, by kernel_rfl⟩
end Go.Proofs.Ytflkbabhbnmajaa

/- Walks (printed by gen.py). -/
namespace Go.Proofs.Ytflkbabhbnmajaa
open Go Go.RowKit
set_option linter.unusedSimpArgs false
set_option linter.unusedVariables false

set_option maxRecDepth 100000 in
theorem Ro_ok (g : E.Cfg) (t a b tick : Int) (w0 : World) (hg : g.rd w0 (E.Old w0)) (hgf : g.q.fit) (ht : 0 ≤ tick ∧ tick < 18446744073709551616) :
    Calls Try.prog 40 #[g.v, .int .i64 t, .agg #[.int .i64 a, .int .i64 b], .int .u64 tick] w0 (E.Post w0 (E.Old w0) fun v Hn => ∃ A2 c2, v = .tuple #[.slice A2 ((Rt.routeR g.q t a b tick).1).length c2, .int .i64 (Rt.routeR g.q t a b tick).2] ∧ Hn = [E.HP.row 3 1 A2 ((Rt.routeR g.q t a b tick).1).length c2 (E.ints ((Rt.routeR g.q t a b tick).1))]) := by
  obtain ⟨hX1, hX2, hX3, hX4⟩ := id hg
  have hgl := E.Cfg.fit_len hgf
  refine E.calls_of (vs := [g.v, .int .i64 t, .agg #[.int .i64 a, .int .i64 b], .int .u64 tick]) (H := []) Try.func40 Try.ntmps40 rfl rfl (E.HA.start w0) ?_
  refine E.CW.seq ?_
  refine E.CW.region ?_
  refine E.OW.box rfl rfl rfl rfl rfl rfl (fun B1 => ?_)
  refine E.OW.box rfl rfl rfl rfl rfl rfl (fun B2 => ?_)
  refine E.OW.pure rfl rfl rfl (E.PV.assign rfl rfl) ?_
  refine E.OW.pure rfl rfl rfl (E.PV.assign rfl rfl) ?_
  refine E.OW.nil ?_
  refine E.then_n ?_
  refine E.CW.seq ?_
  refine E.CW.region ?_
  refine E.OW.pure rfl rfl rfl (E.PV.loads (i := 1) is28 rfl rfl rfl rfl) ?_
  refine E.OW.pure rfl rfl rfl (E.PV.move rfl rfl) ?_
  refine E.OW.pure rfl rfl rfl (E.PV.loads (i := 0) is30 rfl rfl rfl rfl) ?_
  refine E.OW.pure rfl rfl rfl (E.PV.move rfl rfl) ?_
  (refine E.OW.call nm39 rfl rfl rfl rfl rfl rfl _ (fun w hw => Arv_ok g t a b tick w ?_ ?_ ?_) ?_; (focus (refine hw.rdC ?_; assumption)); (focus (assumption)); (focus (assumption)); rintro _ _ ⟨rfl, rfl⟩)
  refine E.OW.pure rfl rfl rfl (E.PV.move rfl rfl) ?_
  refine E.OW.pure rfl rfl rfl (E.PV.extract rfl rfl rfl) ?_
  refine E.OW.pure rfl rfl rfl (E.PV.extract rfl rfl rfl) ?_
  refine E.OW.pure rfl rfl rfl (E.PV.assign rfl rfl) ?_
  refine E.OW.pure rfl rfl rfl (E.PV.assign rfl rfl) ?_
  refine E.OW.nil ?_
  refine E.then_n ?_
  refine E.CW.seq ?_
  refine E.CW.seq ?_
  refine E.CW.region ?_
  refine E.OW.pure rfl rfl rfl (E.PV.move rfl rfl) ?_
  refine E.OW.pure rfl rfl rfl (E.PV.neq rfl rfl rfl) ?_
  refine E.OW.nil ?_
  refine E.then_n ?_
  refine E.CW.cond rfl (fun hc => ?_) (fun hc => ?_)
  · simp only [E.b0, E.b1, E.b2, E.b3, E.b4, E.b5, E.b6, E.b7, E.b8, E.b9, E.b10, E.b11, E.b12, E.b13, E.b14, E.b15, E.b16, E.b17, E.b18, E.b19, E.b20, reduceCtorEq] at hc
    all_goals (
      refine E.CW.seq ?_
      refine E.CW.nilrow 3 1 ?_
      refine E.CW.region ?_
      refine E.OW.pure rfl rfl rfl (E.PV.move rfl rfl) ?_
      refine E.OW.pure rfl rfl rfl (E.PV.assign rfl rfl) ?_
      refine E.OW.pure rfl rfl rfl (E.PV.assign rfl rfl) ?_
      refine E.OW.nil ?_
      refine E.then_n ?_
      refine E.CW.ret ?_
      refine E.then_ret ?_
      refine E.KR.two [0] Try.results40 rfl rfl rfl ?_
      rw [Rt.route_err (by assumption)]
      exact ⟨none, 0, rfl, rfl⟩)
  · simp only [E.b0, E.b1, E.b2, E.b3, E.b4, E.b5, E.b6, E.b7, E.b8, E.b9, E.b10, E.b11, E.b12, E.b13, E.b14, E.b15, E.b16, E.b17, E.b18, E.b19, E.b20, reduceCtorEq] at hc
    all_goals (
      refine E.CW.skip ?_
      refine E.then_n ?_
      refine E.CW.seq ?_
      obtain ⟨hle, har1, har0, hrt⟩ := Rt.route_ok (show (Rt.arrivalR g.q t a b tick).2 = 0 by assumption)
      obtain ⟨hL, hlk⟩ := Rt.leg_of hle
      have hN1024 := Rt.arr_le (tick := tick) hL
      obtain ⟨N, hN⟩ : ∃ N : Nat, Rt.arrv g.q t a b tick = (N : Int) := ⟨_, (Int.toNat_of_nonneg har0).symm⟩
      refine E.CW.region ?_
      refine E.OW.pure rfl rfl rfl (E.PV.loads (i := 1) is28 rfl rfl rfl rfl) ?_
      refine E.OW.pure rfl rfl rfl (E.PV.move rfl rfl) ?_
      refine E.OW.pure rfl rfl rfl (E.PV.loads (i := 0) is30 rfl rfl rfl rfl) ?_
      (refine E.OW.call nm59 rfl rfl rfl rfl rfl rfl _ (fun w hw => np_ok g t a b w ?_ ?_ ?_) ?_; (focus (refine hw.rdC ?_; assumption)); (focus (assumption)); (focus (assumption)); rintro _ _ ⟨yP, DP, rfl, rfl, hyx, hyD⟩)
      refine E.OW.pure rfl rfl rfl (E.PV.assign rfl rfl) ?_
      refine E.OW.nil ?_
      have hyn : yP.x.n = g.l.length := by rw [hyx]; rfl
      have hyK : yP.x.K = g.s.length := by rw [hyx]; rfl
      have hn64 : g.l.length ≤ 64 := Rt.len_le hL.c
      have hs16 : 1 ≤ g.s.length ∧ g.s.length ≤ 16 := Rt.per_of hL.c
      have hra : 0 ≤ a ∧ a < (g.l.length : Int) := hL.ra
      have hok : yP.x.ok := by rw [hyx]; exact Rt.G_ok hL
      have haN : Bf.arr yP.x (Rt.phk yP.x.K tick) a.toNat = (N : Int) := by rw [hyx]; exact hN
      have hac : yP.x.cell a.toNat = true := by rw [hyx]; exact Rt.cell_from hL
      refine E.then_n ?_
      refine E.CW.seq ?_
      refine E.CW.region ?_
      refine E.OW.pure rfl rfl rfl (E.PV.fieldAddr fa30_0 rfl rfl) ?_
      refine E.OW.pure rfl rfl rfl (E.PV.load (i := 1) na3 rfl rfl rfl rfl) ?_
      refine E.OW.buildSlice (Et := 3) (sz := 1) (ps := [(0, .tmp 31)]) rfl rfl rfl rfl rfl (by simp) (by unfold maxLen; omega) (fun w => bsl31_1_0 _ w) (fun A3 => ?_)
      refine E.OW.pure rfl rfl rfl (E.PV.assign rfl rfl) ?_
      refine E.OW.nil ?_
      refine E.then_n ?_
      refine E.CW.seq ?_
      refine E.CW.seq ?_
      refine E.CW.region ?_
      refine E.OW.pure rfl rfl rfl (E.PV.fieldAddr fa30_0 rfl rfl) ?_
      refine E.OW.pure rfl rfl rfl (E.PV.load (i := 2) na3 rfl rfl rfl rfl) ?_
      refine E.OW.pure rfl rfl rfl (E.PV.assign rfl rfl) ?_
      refine E.OW.nil ?_
      refine E.then_n ?_
      refine E.CW.block ?_
      refine E.CW.sels [0, 0, 0, 0] rfl ?_
      refine E.CW.loopk [12] 1 rfl rfl (fun mm mods Hm => ∃ i : Nat, ∃ p : Nat, ∃ o : List Int, ∃ A : Option Addr, ∃ e : Nat, mm = N - i ∧ mods = [(3, .int .u64 (tick + (i : Int))), (10, .int .i64 ((N : Int) - (i : Int))), (13, .slice A o.length e), (14, .int .i64 (p : Int))] ∧ Hm = [E.HP.row 3 1 A (o).length e (E.ints (o))] ∧ Rt.RI yP.x N tick a.toNat i p o) (N) ?_ ?_
      · exact ⟨[(3, _), (10, _), (13, _), (14, _)], (by repeat (first | exact E.cov_nil | refine ⟨rfl, ?_⟩)), 0, a.toNat, [a], _, _, rfl, (by rw [har1, hN]; simp [Int.toNat_of_nonneg hra.1]), rfl, (by have h := Rt.RI.start (tick := tick) (a0 := a.toNat) (by omega) hac haN; rwa [Int.toNat_of_nonneg hra.1] at h)⟩
      · rintro _ _ _ ⟨i, p, o, A, e, rfl, rfl, rfl, hI⟩
        have hil := hI.hi
        have hol := hI.hl
        refine E.CW.seq ?_
        refine E.CW.seq ?_
        refine E.CW.region ?_
        refine E.OW.pure rfl rfl rfl (E.PV.move rfl rfl) ?_
        refine E.OW.pure rfl rfl rfl (E.PV.gtr rfl rfl rfl) ?_
        refine E.OW.nil ?_
        refine E.then_n ?_
        refine E.CW.cond rfl (fun hc => ?_) (fun hc => ?_)
        · simp only [E.b0, E.b1, E.b2, E.b3, E.b4, E.b5, E.b6, E.b7, E.b8, E.b9, E.b10, E.b11, E.b12, E.b13, E.b14, E.b15, E.b16, E.b17, E.b18, E.b19, E.b20, reduceCtorEq] at hc
          all_goals (
            refine E.CW.skip ?_
            refine E.then_n ?_
            refine E.CW.seq ?_
            refine E.CW.block ?_
            refine E.CW.seq ?_
            have hiN : i < N := by omega
            refine E.CW.region ?_
            refine E.OW.pure rfl rfl rfl (E.PV.move rfl rfl) ?_
            refine E.OW.pure rfl rfl rfl (E.PV.move rfl rfl) ?_
            refine E.OW.pure rfl rfl rfl (E.PV.move rfl rfl) ?_
            refine E.OW.pure rfl rfl rfl (E.PV.move rfl rfl) ?_
            (refine E.OW.call nm82 rfl rfl rfl rfl rfl rfl _ (fun w hw => nx_ok yP DP p (tick + (i : Int)) ((N : Int) - (i : Int)) w ?_ ?_ (by omega) hok (Rt.plan_all hyD) hI.hp (by omega) (by omega) (by rw [hyx]; exact Rt.G_near _ _ _ _ _)) ?_; (focus (exact E.sr0p (i := 1) rfl w hw)); (focus (exact E.srdp (i := 1) rfl w hw)); rintro _ _ ⟨rfl, rfl⟩)
            refine E.OW.pure rfl rfl rfl (E.PV.assign rfl rfl) ?_
            refine E.OW.nil ?_
            refine E.then_n ?_
            refine E.CW.seq ?_
            refine E.CW.region ?_
            refine E.OW.pure rfl rfl rfl (E.PV.move rfl rfl) ?_
            refine E.OW.pure rfl rfl rfl (E.PV.add_u64 rfl rfl rfl ?_) ?_; (focus (omega))
            refine E.OW.pure rfl rfl rfl (E.PV.assign rfl rfl) ?_
            refine E.OW.nil ?_
            refine E.then_n ?_
            refine E.CW.region ?_
            refine E.OW.pure rfl rfl rfl (E.PV.move rfl rfl) ?_
            refine E.OW.pure rfl rfl rfl (E.PV.move rfl rfl) ?_
            refine E.OW.buildSlice (Et := 3) (sz := 1) (ps := [(0, .tmp 47)]) rfl rfl rfl rfl rfl (by simp) (by unfold maxLen; omega) (fun w => bsl31_1_0 _ w) (fun A4 => ?_)
            refine E.OW.app_int1 (j := 0) (i := 0) Try.underlying31 in3 rfl rfl rfl rfl rfl rfl rfl rfl rfl rfl ?_ (fun A5 c5 => ?_); (focus ((first | omega | (simp only [List.length_append, List.length_cons, List.length_nil] at *; omega) | (unfold maxLen at *; omega))))
            refine E.OW.pure rfl rfl rfl (E.PV.assign rfl rfl) ?_
            refine E.OW.nil ?_
            refine E.blk_n ?_
            refine E.then_n ?_
            refine E.CW.region ?_
            refine E.OW.pure rfl rfl rfl (E.PV.move rfl rfl) ?_
            refine E.OW.pure rfl rfl rfl (E.PV.sub_i64 rfl rfl rfl ?_) ?_; (focus (omega))
            refine E.OW.pure rfl rfl rfl (E.PV.assign rfl rfl) ?_
            refine E.OW.nil ?_
            refine E.then_nf ?_
            refine ⟨_, [(3, _), (10, _), (13, _), (14, _)], [0, 0, 0, 0], [_], ?_, by repeat (first | exact E.cov_nil | refine ⟨rfl, ?_⟩), rfl, i + 1, _, _, _, _, rfl, (by rw [show tick + ((i + 1 : Nat) : Int) = tick + (i : Int) + 1 by omega, show (N : Int) - ((i + 1 : Nat) : Int) = (N : Int) - (i : Int) - 1 by omega]), rfl, hI.step hok (by omega) hiN⟩
            omega)
        · simp only [E.b0, E.b1, E.b2, E.b3, E.b4, E.b5, E.b6, E.b7, E.b8, E.b9, E.b10, E.b11, E.b12, E.b13, E.b14, E.b15, E.b16, E.b17, E.b18, E.b19, E.b20, reduceCtorEq] at hc
          all_goals (
            refine E.CW.exit ?_
            refine E.then_x ?_
            refine E.then_x ?_
            refine E.blk_eq ?_
            refine E.then_n ?_
            refine E.CW.seq ?_
            refine E.CW.region ?_
            refine E.OW.pure rfl rfl rfl (E.PV.move rfl rfl) ?_
            refine E.OW.pure rfl rfl rfl (E.PV.assign rfl rfl) ?_
            refine E.OW.pure rfl rfl rfl (E.PV.assign rfl rfl) ?_
            refine E.OW.nil ?_
            refine E.then_n ?_
            refine E.CW.ret ?_
            refine E.KR.two [0] Try.results40 rfl rfl rfl ?_
            obtain rfl : i = N := by omega
            rw [hrt, show Rt.rts g.q t a b tick = o from by rw [hI.fin, hyx]; unfold Rt.rts; rw [hN]; rfl]
            exact ⟨_, _, rfl, rfl⟩))

set_option maxRecDepth 100000 in
theorem Ne_ok (g : E.Cfg) (t a b tick : Int) (w0 : World) (hg : g.rd w0 (E.Old w0)) (hgf : g.q.fit) (ht : 0 ≤ tick ∧ tick < 18446744073709551616) :
    Calls Try.prog 52 #[g.v, .int .i64 t, .agg #[.int .i64 a, .int .i64 b], .int .u64 tick] w0 (E.Post w0 (E.Old w0) fun v Hn => v = .tuple #[.int .i64 (Rt.nextR g.q t a b tick).1, .int .i64 (Rt.nextR g.q t a b tick).2] ∧ Hn = []) := by
  obtain ⟨hX1, hX2, hX3, hX4⟩ := id hg
  have hgl := E.Cfg.fit_len hgf
  refine E.calls_of (vs := [g.v, .int .i64 t, .agg #[.int .i64 a, .int .i64 b], .int .u64 tick]) (H := []) Try.func52 Try.ntmps52 rfl rfl (E.HA.start w0) ?_
  refine E.CW.seq ?_
  refine E.CW.region ?_
  refine E.OW.box rfl rfl rfl rfl rfl rfl (fun B1 => ?_)
  refine E.OW.box rfl rfl rfl rfl rfl rfl (fun B2 => ?_)
  refine E.OW.pure rfl rfl rfl (E.PV.assign rfl rfl) ?_
  refine E.OW.pure rfl rfl rfl (E.PV.assign rfl rfl) ?_
  refine E.OW.nil ?_
  refine E.then_n ?_
  refine E.CW.seq ?_
  refine E.CW.region ?_
  refine E.OW.pure rfl rfl rfl (E.PV.loads (i := 1) is28 rfl rfl rfl rfl) ?_
  refine E.OW.pure rfl rfl rfl (E.PV.move rfl rfl) ?_
  refine E.OW.pure rfl rfl rfl (E.PV.loads (i := 0) is30 rfl rfl rfl rfl) ?_
  refine E.OW.pure rfl rfl rfl (E.PV.move rfl rfl) ?_
  (refine E.OW.call nm40 rfl rfl rfl rfl rfl rfl _ (fun w hw => Ro_ok _ _ _ _ _ w ?_ ?_ ?_) ?_; (focus (refine hw.rdC ?_; assumption)); (focus (assumption)); (focus (assumption)); rintro _ _ ⟨ARo, cRo, rfl, rfl⟩)
  refine E.OW.pure rfl rfl rfl (E.PV.move rfl rfl) ?_
  refine E.OW.pure rfl rfl rfl (E.PV.extract rfl rfl rfl) ?_
  refine E.OW.pure rfl rfl rfl (E.PV.extract rfl rfl rfl) ?_
  refine E.OW.pure rfl rfl rfl (E.PV.assign rfl rfl) ?_
  refine E.OW.pure rfl rfl rfl (E.PV.assign rfl rfl) ?_
  refine E.OW.nil ?_
  refine E.then_n ?_
  refine E.CW.seq ?_
  refine E.CW.seq ?_
  refine E.CW.region ?_
  refine E.OW.pure rfl rfl rfl (E.PV.move rfl rfl) ?_
  refine E.OW.pure rfl rfl rfl (E.PV.neq rfl rfl rfl) ?_
  refine E.OW.nil ?_
  refine E.then_n ?_
  refine E.CW.cond rfl (fun hc => ?_) (fun hc => ?_)
  · simp only [E.b0, E.b1, E.b2, E.b3, E.b4, E.b5, E.b6, E.b7, E.b8, E.b9, E.b10, E.b11, E.b12, E.b13, E.b14, E.b15, E.b16, E.b17, E.b18, E.b19, E.b20, reduceCtorEq] at hc
    all_goals (
      refine E.CW.seq ?_
      refine E.CW.region ?_
      refine E.OW.pure rfl rfl rfl (E.PV.move rfl rfl) ?_
      refine E.OW.pure rfl rfl rfl (E.PV.assign rfl rfl) ?_
      refine E.OW.pure rfl rfl rfl (E.PV.assign rfl rfl) ?_
      refine E.OW.nil ?_
      refine E.then_n ?_
      refine E.CW.ret ?_
      refine E.then_ret ?_
      refine E.KR.two [] Try.results52 rfl rfl rfl ?_
      exact ⟨by rw [show Rt.nextR g.q t a b tick = (0, (Rt.routeR g.q t a b tick).2) from if_neg (by assumption)]; rfl, rfl⟩)
  · simp only [E.b0, E.b1, E.b2, E.b3, E.b4, E.b5, E.b6, E.b7, E.b8, E.b9, E.b10, E.b11, E.b12, E.b13, E.b14, E.b15, E.b16, E.b17, E.b18, E.b19, E.b20, reduceCtorEq] at hc
    all_goals (
      refine E.CW.skip ?_
      refine E.then_n ?_
      refine E.CW.seq ?_
      refine E.CW.seq ?_
      refine E.CW.region ?_
      refine E.OW.pure rfl rfl rfl (E.PV.move rfl rfl) ?_
      refine E.OW.pure rfl rfl rfl (E.PV.len Try.underlying31 rfl rfl) ?_
      refine E.OW.pure rfl rfl rfl (E.PV.lss rfl rfl rfl) ?_
      refine E.OW.nil ?_
      refine E.then_n ?_
      refine E.CW.cond rfl (fun hc => ?_) (fun hc => ?_)
      · simp only [E.b0, E.b1, E.b2, E.b3, E.b4, E.b5, E.b6, E.b7, E.b8, E.b9, E.b10, E.b11, E.b12, E.b13, E.b14, E.b15, E.b16, E.b17, E.b18, E.b19, E.b20, reduceCtorEq] at hc
        all_goals (
          refine E.CW.seq ?_
          refine E.CW.region ?_
          refine E.OW.pure rfl rfl rfl (E.PV.assign rfl rfl) ?_
          refine E.OW.pure rfl rfl rfl (E.PV.assign rfl rfl) ?_
          refine E.OW.nil ?_
          refine E.then_n ?_
          refine E.CW.ret ?_
          refine E.then_ret ?_
          refine E.KR.two [] Try.results52 rfl rfl rfl ?_
          exact ⟨by rw [show Rt.nextR g.q t a b tick = (0, 6) from (if_pos (by assumption)).trans (if_pos (by omega))], rfl⟩)
      · simp only [E.b0, E.b1, E.b2, E.b3, E.b4, E.b5, E.b6, E.b7, E.b8, E.b9, E.b10, E.b11, E.b12, E.b13, E.b14, E.b15, E.b16, E.b17, E.b18, E.b19, E.b20, reduceCtorEq] at hc
        all_goals (
          refine E.CW.skip ?_
          refine E.then_n ?_
          refine E.CW.seq ?_
          refine E.CW.region ?_
          refine E.OW.pure rfl rfl rfl (E.PV.move rfl rfl) ?_
          refine E.OW.pure rfl rfl rfl (E.PV.indexAddr1 (E.rdr (i := 0) rfl) Try.underlying31 in3 rfl rfl rfl (E.tn ?_) ?_ ?_) ?_; (focus (omega)); (focus (first | (simp; done) | (simp; omega))); (focus (omega))
          refine E.OW.pure rfl rfl rfl (E.PV.load_int (E.rdr (i := 0) rfl) na3 rfl rfl ?_) ?_; (focus (omega))
          refine E.OW.pure rfl rfl rfl (E.PV.assign rfl rfl) ?_
          refine E.OW.pure rfl rfl rfl (E.PV.assign rfl rfl) ?_
          refine E.OW.nil ?_
          refine E.then_n ?_
          refine E.CW.ret ?_
          refine E.KR.two [] Try.results52 rfl rfl rfl ?_
          exact ⟨by rw [show Rt.nextR g.q t a b tick = ((Rt.routeR g.q t a b tick).1.getD 1 0, 0) from (if_pos (by assumption)).trans (if_neg (by omega))]; rfl, rfl⟩))
end Go.Proofs.Ytflkbabhbnmajaa

/- Walks (printed by gen.py). -/
namespace Go.Proofs.Ytflkbabhbnmajaa
open Go Go.RowKit
set_option linter.unusedSimpArgs false
set_option linter.unusedVariables false

set_option maxRecDepth 100000 in
theorem Re_ok (g : E.Cfg) (t a b tick n : Int) (w0 : World) (hg : g.rd w0 (E.Old w0)) (hgf : g.q.fit) (ht : 0 ≤ tick ∧ tick < 18446744073709551616) :
    Calls Try.prog 28 #[g.v, .int .i64 t, .agg #[.int .i64 a, .int .i64 b], .int .u64 tick, .int .i64 n] w0 (E.Post w0 (E.Old w0) fun v Hn => ∃ A2 c2, v = .tuple #[.slice A2 ((Rt.reachR g.q t a b tick n).1).length c2, .int .i64 (Rt.reachR g.q t a b tick n).2] ∧ Hn = [E.HP.row 3 1 A2 ((Rt.reachR g.q t a b tick n).1).length c2 (E.ints ((Rt.reachR g.q t a b tick n).1))]) := by
  obtain ⟨hX1, hX2, hX3, hX4⟩ := id hg
  have hgl := E.Cfg.fit_len hgf
  refine E.calls_of (vs := [g.v, .int .i64 t, .agg #[.int .i64 a, .int .i64 b], .int .u64 tick, .int .i64 n]) (H := []) Try.func28 Try.ntmps28 rfl rfl (E.HA.start w0) ?_
  refine E.CW.seq ?_
  refine E.CW.region ?_
  refine E.OW.box rfl rfl rfl rfl rfl rfl (fun B1 => ?_)
  refine E.OW.box rfl rfl rfl rfl rfl rfl (fun B2 => ?_)
  refine E.OW.pure rfl rfl rfl (E.PV.assign rfl rfl) ?_
  refine E.OW.pure rfl rfl rfl (E.PV.assign rfl rfl) ?_
  refine E.OW.nil ?_
  refine E.then_n ?_
  refine E.CW.seq ?_
  refine E.CW.seq ?_
  refine E.CW.region ?_
  refine E.OW.pure rfl rfl rfl (E.PV.loads (i := 1) is28 rfl rfl rfl rfl) ?_
  refine E.OW.pure rfl rfl rfl (E.PV.move rfl rfl) ?_
  refine E.OW.pure rfl rfl rfl (E.PV.loads (i := 0) is30 rfl rfl rfl rfl) ?_
  refine E.OW.pure rfl rfl rfl (E.PV.move rfl rfl) ?_
  (refine E.OW.call nm58 rfl rfl rfl rfl rfl rfl _ (fun w hw => Le_ok g t a b tick w ?_ ?_ ?_) ?_; (focus (refine hw.rdC ?_; assumption)); (focus (assumption)); (focus (assumption)); rintro _ _ ⟨rfl, rfl⟩)
  refine E.OW.pure rfl rfl rfl (E.PV.assign rfl rfl) ?_
  refine E.OW.nil ?_
  refine E.then_n ?_
  refine E.CW.seq ?_
  refine E.CW.region ?_
  refine E.OW.pure rfl rfl rfl (E.PV.move rfl rfl) ?_
  refine E.OW.pure rfl rfl rfl (E.PV.neq rfl rfl rfl) ?_
  refine E.OW.nil ?_
  refine E.then_n ?_
  refine E.CW.cond rfl (fun hc => ?_) (fun hc => ?_)
  · simp only [E.b0, E.b1, E.b2, E.b3, E.b4, E.b5, E.b6, E.b7, E.b8, E.b9, E.b10, E.b11, E.b12, E.b13, E.b14, E.b15, E.b16, E.b17, E.b18, E.b19, E.b20, reduceCtorEq] at hc
    all_goals (
      refine E.CW.seq ?_
      refine E.CW.nilrow 3 1 ?_
      refine E.CW.region ?_
      refine E.OW.pure rfl rfl rfl (E.PV.move rfl rfl) ?_
      refine E.OW.pure rfl rfl rfl (E.PV.assign rfl rfl) ?_
      refine E.OW.pure rfl rfl rfl (E.PV.assign rfl rfl) ?_
      refine E.OW.nil ?_
      refine E.then_n ?_
      refine E.CW.ret ?_
      refine E.then_ret ?_
      refine E.KR.two [0] Try.results28 rfl rfl rfl ?_
      rw [show Rt.reachR g.q t a b tick n = ([], Rt.legE g.q t a b tick) from if_neg (by assumption)]
      exact ⟨none, 0, rfl, rfl⟩)
  · simp only [E.b0, E.b1, E.b2, E.b3, E.b4, E.b5, E.b6, E.b7, E.b8, E.b9, E.b10, E.b11, E.b12, E.b13, E.b14, E.b15, E.b16, E.b17, E.b18, E.b19, E.b20, reduceCtorEq] at hc
    all_goals (
      refine E.CW.skip ?_
      refine E.then_n ?_
      refine E.CW.seq ?_
      refine E.CW.seq ?_
      refine E.CW.region ?_
      refine E.OW.pure rfl rfl rfl (E.PV.move rfl rfl) ?_
      refine E.OW.pure rfl rfl rfl (E.PV.lss rfl rfl rfl) ?_
      refine E.OW.pure rfl rfl rfl (E.PV.move rfl rfl) ?_
      all_goals (refine E.OW.split 35 rfl (fun hc => ?_) (fun hc => ?_) <;> (try simp only [E.b0, E.b1, E.b2, E.b3, E.b4, E.b5, E.b6, E.b7, E.b8, E.b9, E.b10, E.b11, E.b12, E.b13, E.b14, E.b15, E.b16, E.b17, E.b18, E.b19, E.b20, reduceCtorEq] at hc) <;> (try (exfalso; first | assumption | contradiction | omega)))
      all_goals (first | (refine E.OW.off rfl rfl rfl ?_) | (refine E.OW.pure rfl rfl rfl (E.PV.move rfl rfl) ?_))
      all_goals (first | (refine E.OW.off rfl rfl rfl ?_) | (refine E.OW.pure rfl rfl rfl (E.PV.gtr rfl rfl rfl) ?_))
      all_goals (first | (refine E.OW.pure rfl rfl rfl (E.PV.pick_t rfl rfl rfl) ?_) | (refine E.OW.pure rfl rfl rfl (E.PV.pick_f rfl rfl rfl) ?_))
      all_goals (
        refine E.OW.nil ?_
        refine E.then_n ?_
        refine E.CW.cond rfl (fun hc => ?_) (fun hc => ?_)
        · simp only [E.b0, E.b1, E.b2, E.b3, E.b4, E.b5, E.b6, E.b7, E.b8, E.b9, E.b10, E.b11, E.b12, E.b13, E.b14, E.b15, E.b16, E.b17, E.b18, E.b19, E.b20, reduceCtorEq] at hc
          all_goals (
            refine E.CW.seq ?_
            refine E.CW.nilrow 3 1 ?_
            refine E.CW.region ?_
            refine E.OW.pure rfl rfl rfl (E.PV.assign rfl rfl) ?_
            refine E.OW.pure rfl rfl rfl (E.PV.assign rfl rfl) ?_
            refine E.OW.nil ?_
            refine E.then_n ?_
            refine E.CW.ret ?_
            refine E.then_ret ?_
            refine E.KR.two [0] Try.results28 rfl rfl rfl ?_
            rw [show Rt.reachR g.q t a b tick n = ([], 2) from (if_pos (by assumption)).trans (if_neg (by omega))]
            exact ⟨none, 0, rfl, rfl⟩)
        · first | ((cases hc; done)) | (simp only [E.b0, E.b1, E.b2, E.b3, E.b4, E.b5, E.b6, E.b7, E.b8, E.b9, E.b10, E.b11, E.b12, E.b13, E.b14, E.b15, E.b16, E.b17, E.b18, E.b19, E.b20, reduceCtorEq] at hc)
          all_goals (
            refine E.CW.skip ?_
            refine E.then_n ?_
            refine E.CW.seq ?_
            obtain ⟨hL, hlk⟩ := Rt.leg_of (show Rt.legE g.q t a b tick = 0 by assumption)
            obtain ⟨N, rfl⟩ : ∃ N : Nat, n = (N : Int) := ⟨n.toNat, (Int.toNat_of_nonneg (by omega)).symm⟩
            refine E.CW.region ?_
            refine E.OW.pure rfl rfl rfl (E.PV.loads (i := 1) is28 rfl rfl rfl rfl) ?_
            refine E.OW.pure rfl rfl rfl (E.PV.move rfl rfl) ?_
            refine E.OW.pure rfl rfl rfl (E.PV.loads (i := 0) is30 rfl rfl rfl rfl) ?_
            (refine E.OW.call nm59 rfl rfl rfl rfl rfl rfl _ (fun w hw => np_ok g t a b w ?_ ?_ ?_) ?_; (focus (refine hw.rdC ?_; assumption)); (focus (assumption)); (focus (assumption)); rintro _ _ ⟨yP, DP, rfl, rfl, hyx, hyD⟩)
            refine E.OW.pure rfl rfl rfl (E.PV.assign rfl rfl) ?_
            refine E.OW.nil ?_
            have hyn : yP.x.n = g.l.length := by rw [hyx]; rfl
            have hyK : yP.x.K = g.s.length := by rw [hyx]; rfl
            have hn64 : g.l.length ≤ 64 := Rt.len_le hL.c
            have hs16 : 1 ≤ g.s.length ∧ g.s.length ≤ 16 := Rt.per_of hL.c
            have hra : 0 ≤ a ∧ a < (g.l.length : Int) := hL.ra
            have hok : yP.x.ok := by rw [hyx]; exact Rt.G_ok hL
            refine E.then_n ?_
            refine E.CW.seq ?_
            refine E.CW.region ?_
            refine E.OW.pure rfl rfl rfl (E.PV.move rfl rfl) ?_
            refine E.OW.pure rfl rfl rfl (E.PV.nilCheck rfl rfl) ?_
            refine E.OW.pure rfl rfl rfl (E.PV.fieldAddr fa93_1 rfl rfl) ?_
            refine E.OW.pure rfl rfl rfl (E.PV.load_at (E.p_b (E.sr0p (i := 0) rfl)) na89 rfl rfl rfl) ?_
            refine E.OW.pure rfl rfl rfl (E.PV.len Try.underlying89 rfl rfl) ?_
            refine E.OW.make_bl _ Try.underlying89 in4 rfl rfl rfl rfl rfl rfl rfl ?_ ?_ (fun A3 => ?_); (focus (unfold maxLen; omega)); (focus (omega))
            refine E.OW.pure rfl rfl rfl (E.PV.assign rfl rfl) ?_
            refine E.OW.nil ?_
            refine E.then_n ?_
            refine E.CW.seq ?_
            refine E.CW.region ?_
            refine E.OW.pure rfl rfl rfl (E.PV.move rfl rfl) ?_
            refine E.OW.pure rfl rfl rfl (E.PV.fieldAddr fa30_0 rfl rfl) ?_
            refine E.OW.pure rfl rfl rfl (E.PV.load (i := 2) na3 rfl rfl rfl rfl) ?_
            refine E.OW.pure rfl rfl rfl (E.PV.indexAddr1 (E.rdr (i := 0) rfl) Try.underlying89 in4 rfl rfl rfl (E.tn ?_) ?_ ?_) ?_; (focus (omega)); (focus (first | (simp; done) | (simp; omega))); (focus (omega))
            refine E.OW.store_bl (i := 0) in4.size rfl rfl rfl rfl rfl rfl ?_ ?_; (focus (omega))
            refine E.OW.nil ?_
            refine E.then_n ?_
            refine E.CW.seq ?_
            refine E.CW.seq ?_
            refine E.CW.region ?_
            refine E.OW.pure rfl rfl rfl (E.PV.assign rfl rfl) ?_
            refine E.OW.nil ?_
            refine E.then_n ?_
            refine E.CW.block ?_
            refine E.CW.sels [0, 0, 0, 0] rfl ?_
            refine E.CW.loopk [3, 4, 13] 1 rfl rfl (fun mm mods Hm => ∃ m : Nat, ∃ A : Option Addr, mm = N - m ∧ mods = [(15, .int .i64 ((m : Int) + 1)), (14, .slice A yP.x.n yP.x.n)] ∧ Hm = [E.HP.row 4 1 A yP.x.n yP.x.n (E.bls yP.x.n ((Bf.R yP.x (Rt.phk yP.x.K tick) a.toNat m)))] ∧ m ≤ N) (N) ?_ ?_
            · exact ⟨[(15, _), (14, _)], (by repeat (first | exact E.cov_nil | refine ⟨rfl, ?_⟩)), 0, _, rfl, rfl, (by rw [Rt.R_zero (x := yP.x) (k0 := Rt.phk yP.x.K tick)]), by omega⟩
            · rintro _ _ _ ⟨m, A, rfl, rfl, rfl, hm⟩
              refine E.CW.seq ?_
              refine E.CW.seq ?_
              refine E.CW.region ?_
              refine E.OW.pure rfl rfl rfl (E.PV.move rfl rfl) ?_
              refine E.OW.pure rfl rfl rfl (E.PV.move rfl rfl) ?_
              refine E.OW.pure rfl rfl rfl (E.PV.leq rfl rfl rfl) ?_
              refine E.OW.nil ?_
              refine E.then_n ?_
              refine E.CW.cond rfl (fun hc => ?_) (fun hc => ?_)
              · simp only [E.b0, E.b1, E.b2, E.b3, E.b4, E.b5, E.b6, E.b7, E.b8, E.b9, E.b10, E.b11, E.b12, E.b13, E.b14, E.b15, E.b16, E.b17, E.b18, E.b19, E.b20, reduceCtorEq] at hc
                all_goals (
                  refine E.CW.skip ?_
                  refine E.then_n ?_
                  refine E.CW.seq ?_
                  refine E.CW.block ?_
                  refine E.CW.seq ?_
                  refine E.CW.region ?_
                  refine E.OW.pure rfl rfl rfl (E.PV.move rfl rfl) ?_
                  refine E.OW.pure rfl rfl rfl (E.PV.move rfl rfl) ?_
                  refine E.OW.pure rfl rfl rfl (E.PV.move rfl rfl) ?_
                  refine E.OW.pure rfl rfl rfl (E.PV.conv_in Try.underlying3 Try.underlying26 rfl rfl ?_) ?_; (focus (first | exact E.wrap_u8 _ | (simp only [IntKind.wrap_i64, IntKind.wrap_u64, IntKind.wrap_u8]; omega)))
                  refine E.OW.pure rfl rfl rfl (E.PV.add_u64 rfl rfl rfl ?_) ?_; (focus (omega))
                  (refine E.OW.call nm60 rfl rfl rfl rfl rfl rfl _ (fun w hw => ph_ok yP (tick + ((m : Int) + 1)) w ?_ ?_ (by omega)) ?_; (focus (exact E.sr0p (i := 1) rfl w hw)); (focus (omega)); rintro _ _ ⟨rfl, rfl⟩)
                  refine E.OW.pure rfl rfl rfl (E.PV.assign rfl rfl) ?_
                  refine E.OW.nil ?_
                  refine E.then_n ?_
                  refine E.CW.seq ?_
                  have hkl := Rt.phk_lt (show 1 ≤ yP.x.K by omega) (tick + ((m : Int) + 1))
                  refine E.CW.region ?_
                  refine E.OW.pure rfl rfl rfl (E.PV.move rfl rfl) ?_
                  refine E.OW.pure rfl rfl rfl (E.PV.len Try.underlying89 rfl rfl) ?_
                  refine E.OW.make_bl _ Try.underlying89 in4 rfl rfl rfl rfl rfl rfl rfl ?_ ?_ (fun A4 => ?_); (focus (unfold maxLen; omega)); (focus (omega))
                  refine E.OW.pure rfl rfl rfl (E.PV.assign rfl rfl) ?_
                  refine E.OW.nil ?_
                  refine E.then_n ?_
                  refine E.CW.seq ?_
                  refine E.CW.seq ?_
                  refine E.CW.region ?_
                  refine E.OW.pure rfl rfl rfl (E.PV.move rfl rfl) ?_
                  refine E.OW.pure rfl rfl rfl (E.PV.len Try.underlying89 rfl rfl) ?_
                  refine E.OW.pure rfl rfl rfl (E.PV.move rfl rfl) ?_
                  refine E.OW.nil ?_
                  refine E.then_n ?_
                  refine E.CW.block ?_
                  refine E.CW.loopk [3, 4, 13, 15, 16, 17, 67, 68] 1 rfl rfl (fun mm mods Hm => ∃ p : Nat, mm = yP.x.n - p ∧ mods = [(69, .int .i64 p)] ∧ Hm = [E.HP.row 4 1 A4 yP.x.n yP.x.n (E.bls yP.x.n (Rt.nxf yP.x (Rt.phk yP.x.K (tick + ((m : Int) + 1))) (Bf.R yP.x (Rt.phk yP.x.K tick) a.toNat m) p 0))] ∧ p ≤ yP.x.n) (yP.x.n) ?_ ?_
                  · exact ⟨[(69, _)], (by repeat (first | exact E.cov_nil | refine ⟨rfl, ?_⟩)), 0, rfl, rfl, (by rw [← Rt.nxf_zero]), by omega⟩
                  · rintro _ _ _ ⟨p, rfl, rfl, rfl, hp⟩
                    refine E.CW.seq ?_
                    refine E.CW.region ?_
                    refine E.OW.pure rfl rfl rfl (E.PV.lss rfl rfl rfl) ?_
                    refine E.OW.nil ?_
                    refine E.then_n ?_
                    refine E.CW.seq ?_
                    refine E.CW.cond rfl (fun hc => ?_) (fun hc => ?_)
                    · simp only [E.b0, E.b1, E.b2, E.b3, E.b4, E.b5, E.b6, E.b7, E.b8, E.b9, E.b10, E.b11, E.b12, E.b13, E.b14, E.b15, E.b16, E.b17, E.b18, E.b19, E.b20, reduceCtorEq] at hc
                      all_goals (
                        refine E.CW.skip ?_
                        refine E.then_n ?_
                        refine E.CW.seq ?_
                        refine E.CW.block ?_
                        refine E.CW.seq ?_
                        refine E.CW.region ?_
                        refine E.OW.pure rfl rfl rfl (E.PV.move rfl rfl) ?_
                        refine E.OW.pure rfl rfl rfl (E.PV.indexAddr1 (E.rdr (i := 1) rfl) Try.underlying89 in4 rfl rfl rfl rfl ?_ ?_) ?_; (focus (first | (simp; done) | (simp; omega))); (focus (omega))
                        refine E.OW.pure rfl rfl rfl (E.PV.load_bl (E.rdr (i := 1) rfl) na4 rfl rfl ?_) ?_; (focus (omega))
                        refine E.OW.pure rfl rfl rfl (E.PV.assign rfl rfl) ?_
                        refine E.OW.pure rfl rfl rfl (E.PV.assign rfl rfl) ?_
                        refine E.OW.nil ?_
                        refine E.then_n ?_
                        refine E.CW.seq ?_
                        refine E.CW.region ?_
                        refine E.OW.pure rfl rfl rfl (E.PV.move rfl rfl) ?_
                        refine E.OW.pure rfl rfl rfl (E.PV.nilCheck rfl rfl) ?_
                        refine E.OW.pure rfl rfl rfl (E.PV.fieldAddr fa93_4 rfl rfl) ?_
                        refine E.OW.pure rfl rfl rfl (E.PV.load_at (E.p_b (E.sr0p (i := 2) rfl)) na91 rfl rfl rfl) ?_
                        refine E.OW.pure rfl rfl rfl (E.PV.move rfl rfl) ?_
                        refine E.OW.pure rfl rfl rfl (E.PV.indexAddr1 (E.p_n (E.sr0p (i := 2) rfl)) Try.underlying91 in31 rfl rfl rfl rfl ?_ ?_) ?_; (focus (first | (simp; done) | (simp; omega))); (focus (omega))
                        refine E.OW.pure rfl rfl rfl (E.PV.load_sn (E.p_n (E.sr0p (i := 2) rfl)) na31 rfl rfl ?_) ?_; (focus (omega))
                        refine E.OW.pure rfl rfl rfl (E.PV.len Try.underlying31 rfl rfl) ?_
                        refine E.OW.pure rfl rfl rfl (E.PV.move rfl rfl) ?_
                        refine E.OW.nil ?_
                        refine E.then_n ?_
                        refine E.CW.block ?_
                        refine E.CW.loopk [3, 4, 13, 15, 16, 17, 19, 67, 68, 69, 80, 81] 1 rfl rfl (fun mm mods Hm => ∃ j : Nat, mm = (yP.x.nr p).length - j ∧ mods = [(82, .int .i64 j)] ∧ Hm = [E.HP.row 4 1 A4 yP.x.n yP.x.n (E.bls yP.x.n (Rt.nxf yP.x (Rt.phk yP.x.K (tick + ((m : Int) + 1))) (Bf.R yP.x (Rt.phk yP.x.K tick) a.toNat m) p j))] ∧ j ≤ (yP.x.nr p).length) ((yP.x.nr p).length) ?_ ?_
                        · exact ⟨[(82, _)], (by repeat (first | exact E.cov_nil | refine ⟨rfl, ?_⟩)), 0, rfl, rfl, rfl, by omega⟩
                        · rintro _ _ _ ⟨j, rfl, rfl, rfl, hj⟩
                          have hnr : (yP.x.nr p).length ≤ 5 := by rw [hyx]; exact Rt.G_near _ _ _ _ _
                          refine E.CW.seq ?_
                          refine E.CW.region ?_
                          refine E.OW.pure rfl rfl rfl (E.PV.lss rfl rfl rfl) ?_
                          refine E.OW.nil ?_
                          refine E.then_n ?_
                          refine E.CW.seq ?_
                          refine E.CW.cond rfl (fun hc => ?_) (fun hc => ?_)
                          · simp only [E.b0, E.b1, E.b2, E.b3, E.b4, E.b5, E.b6, E.b7, E.b8, E.b9, E.b10, E.b11, E.b12, E.b13, E.b14, E.b15, E.b16, E.b17, E.b18, E.b19, E.b20, reduceCtorEq] at hc
                            all_goals (
                              refine E.CW.skip ?_
                              refine E.then_n ?_
                              refine E.CW.seq ?_
                              refine E.CW.block ?_
                              refine E.CW.seq ?_
                              refine E.CW.region ?_
                              refine E.OW.pure rfl rfl rfl (E.PV.indexAddr1 (E.p_nr (E.sr0p (i := 2) rfl) ?_) Try.underlying31 in3 rfl rfl rfl rfl ?_ ?_) ?_; (focus (omega)); (focus (first | (simp; done) | (simp; omega))); (focus (omega))
                              refine E.OW.pure rfl rfl rfl (E.PV.load_nn (E.p_nr (E.sr0p (i := 2) rfl) ?_) na3 rfl rfl ?_) ?_; (focus (omega)); (focus (omega))
                              refine E.OW.pure rfl rfl rfl (E.PV.assign rfl rfl) ?_
                              refine E.OW.nil ?_
                              refine E.then_n ?_
                              have hin : ((yP.x.nr p).getD j 0) ∈ yP.x.nr p := Rt.getD_memN (by omega)
                              have hqn := hok.nrlt _ _ (show p < yP.x.n by omega) hin
                              refine E.CW.region ?_
                              refine E.OW.pure rfl rfl rfl (E.PV.move rfl rfl) ?_
                              refine E.OW.pure rfl rfl rfl (E.PV.move rfl rfl) ?_
                              refine E.OW.pure rfl rfl rfl (E.PV.move rfl rfl) ?_
                              refine E.OW.pure rfl rfl rfl (E.PV.move rfl rfl) ?_
                              refine E.OW.pure rfl rfl rfl (E.PV.indexAddr1 (E.rdr (i := 0) rfl) Try.underlying89 in4 rfl rfl rfl rfl ?_ ?_) ?_; (focus (first | (simp; done) | (simp; omega))); (focus (omega))
                              refine E.OW.pure rfl rfl rfl (E.PV.load_bl (E.rdr (i := 0) rfl) na4 rfl rfl ?_) ?_; (focus (omega))
                              refine E.OW.pure rfl rfl rfl (E.PV.move rfl rfl) ?_
                              all_goals (refine E.OW.split 92 rfl (fun hc => ?_) (fun hc => ?_) <;> (try simp only [E.b0, E.b1, E.b2, E.b3, E.b4, E.b5, E.b6, E.b7, E.b8, E.b9, E.b10, E.b11, E.b12, E.b13, E.b14, E.b15, E.b16, E.b17, E.b18, E.b19, E.b20, reduceCtorEq] at hc) <;> (try (exfalso; first | assumption | contradiction | omega)))
                              all_goals (first | (refine E.OW.off rfl rfl rfl ?_) | (refine E.OW.pure rfl rfl rfl (E.PV.move rfl rfl) ?_))
                              all_goals (first | (refine E.OW.off rfl rfl rfl ?_) | (refine E.OW.pure rfl rfl rfl (E.PV.move rfl rfl) ?_))
                              all_goals (first | (refine E.OW.put 94 (.tuple #[]) (v := .tuple #[]) rfl rfl ?_) | (refine E.OW.split 94 rfl (fun hc => ?_) (fun hc => ?_) <;> (try simp only [E.b0, E.b1, E.b2, E.b3, E.b4, E.b5, E.b6, E.b7, E.b8, E.b9, E.b10, E.b11, E.b12, E.b13, E.b14, E.b15, E.b16, E.b17, E.b18, E.b19, E.b20, reduceCtorEq] at hc) <;> (try (exfalso; first | assumption | contradiction | omega))))
                              all_goals (first | (refine E.OW.off rfl rfl rfl ?_) | (refine E.OW.pure rfl rfl rfl (E.PV.move rfl rfl) ?_))
                              all_goals (first | (refine E.OW.off rfl rfl rfl ?_) | (refine E.OW.pure rfl rfl rfl (E.PV.nilCheck rfl rfl) ?_))
                              all_goals (first | (refine E.OW.off rfl rfl rfl ?_) | (refine E.OW.pure rfl rfl rfl (E.PV.fieldAddr fa93_2 rfl rfl) ?_))
                              all_goals (first | (refine E.OW.off rfl rfl rfl ?_) | (refine E.OW.pure rfl rfl rfl (E.PV.load_at (E.p_b (E.sr0p (i := 2) rfl)) na90 rfl rfl rfl) ?_))
                              all_goals (first | (refine E.OW.off rfl rfl rfl ?_) | (refine E.OW.pure rfl rfl rfl (E.PV.move rfl rfl) ?_))
                              all_goals (first | (refine E.OW.off rfl rfl rfl ?_) | (refine E.OW.pure rfl rfl rfl (E.PV.indexAddr1 (E.p_a (E.sr0p (i := 2) rfl)) Try.underlying90 in89 rfl rfl rfl rfl ?_ ?_) ?_; (focus (first | (simp; done) | (simp; omega))); (focus (omega))))
                              all_goals (first | (refine E.OW.off rfl rfl rfl ?_) | (refine E.OW.pure rfl rfl rfl (E.PV.load_sc (E.p_a (E.sr0p (i := 2) rfl)) na89 rfl rfl ?_) ?_; (focus (omega))))
                              all_goals (first | (refine E.OW.off rfl rfl rfl ?_) | (refine E.OW.pure rfl rfl rfl (E.PV.move rfl rfl) ?_))
                              all_goals (first | (refine E.OW.off rfl rfl rfl ?_) | (refine E.OW.pure rfl rfl rfl (E.PV.indexAddr1 (E.p_ar (E.sr0p (i := 2) rfl) ?_) Try.underlying89 in4 rfl rfl rfl rfl ?_ ?_) ?_; (focus (omega)); (focus (first | (simp; done) | (simp; omega))); (focus (omega))))
                              all_goals (first | (refine E.OW.off rfl rfl rfl ?_) | (refine E.OW.pure rfl rfl rfl (E.PV.load_bl (E.p_ar (E.sr0p (i := 2) rfl) ?_) na4 rfl rfl ?_) ?_; (focus (omega)); (focus (omega))))
                              all_goals (first | (refine E.OW.off rfl rfl rfl ?_) | (first | (refine E.OW.pure rfl rfl rfl (E.PV.pick_t rfl rfl rfl) ?_) | (refine E.OW.pure rfl rfl rfl (E.PV.pick_f rfl rfl rfl) ?_)))
                              all_goals (first | (refine E.OW.pure rfl rfl rfl (E.PV.pick_t rfl rfl rfl) ?_) | (refine E.OW.pure rfl rfl rfl (E.PV.pick_f rfl rfl rfl) ?_))
                              all_goals (refine E.OW.pure rfl rfl rfl (E.PV.indexAddr1 (E.rdr (i := 0) rfl) Try.underlying89 in4 rfl rfl rfl rfl ?_ ?_) ?_; (focus (first | (simp; done) | (simp; omega))); (focus (omega)))
                              all_goals (refine E.OW.store_bl (i := 0) in4.size rfl rfl rfl rfl rfl rfl ?_ ?_; (focus (omega)))
                              all_goals (
                                refine E.OW.nil ?_
                                refine E.blk_n ?_
                                refine E.then_n ?_
                                refine E.CW.region ?_
                                refine E.OW.pure rfl rfl rfl (E.PV.add_i64 rfl rfl rfl ?_) ?_; (focus (omega))
                                refine E.OW.pure rfl rfl rfl (E.PV.move rfl rfl) ?_
                                refine E.OW.nil ?_
                                refine E.then_nf ?_
                                refine ⟨_, [(82, _)], [0, 0, 0, 0, 0], [_], ?_, by repeat (first | exact E.cov_nil | refine ⟨rfl, ?_⟩), rfl, j + 1, rfl, rfl, (congrArg (fun r => [E.HP.row 4 1 A4 yP.x.n yP.x.n r]) (Rt.nxf_step (by omega) (by simp_all))), by omega⟩
                                omega))
                          · simp only [E.b0, E.b1, E.b2, E.b3, E.b4, E.b5, E.b6, E.b7, E.b8, E.b9, E.b10, E.b11, E.b12, E.b13, E.b14, E.b15, E.b16, E.b17, E.b18, E.b19, E.b20, reduceCtorEq] at hc
                            all_goals (
                              refine E.CW.exit ?_
                              refine E.then_x ?_
                              refine E.then_x ?_
                              refine E.blk_eq ?_
                              refine E.blk_n ?_
                              refine E.then_n ?_
                              refine E.CW.region ?_
                              refine E.OW.pure rfl rfl rfl (E.PV.add_i64 rfl rfl rfl ?_) ?_; (focus (omega))
                              refine E.OW.pure rfl rfl rfl (E.PV.move rfl rfl) ?_
                              refine E.OW.nil ?_
                              refine E.then_nf ?_
                              refine ⟨_, [(69, _)], [0, 0, 0, 0, 0], [_], ?_, by repeat (first | exact E.cov_nil | refine ⟨rfl, ?_⟩), rfl, p + 1, rfl, rfl, (by rw [Rt.nxf_row (by omega)]), by omega⟩
                              omega))
                    · simp only [E.b0, E.b1, E.b2, E.b3, E.b4, E.b5, E.b6, E.b7, E.b8, E.b9, E.b10, E.b11, E.b12, E.b13, E.b14, E.b15, E.b16, E.b17, E.b18, E.b19, E.b20, reduceCtorEq] at hc
                      all_goals (
                        refine E.CW.exit ?_
                        refine E.then_x ?_
                        refine E.then_x ?_
                        refine E.blk_eq ?_
                        refine E.then_n ?_
                        refine E.CW.region ?_
                        refine E.OW.pure rfl rfl rfl (E.PV.move rfl rfl) ?_
                        refine E.OW.pure rfl rfl rfl (E.PV.assign rfl rfl) ?_
                        refine E.OW.nil ?_
                        refine E.blk_n ?_
                        refine E.then_n ?_
                        refine E.CW.region ?_
                        refine E.OW.pure rfl rfl rfl (E.PV.move rfl rfl) ?_
                        refine E.OW.pure rfl rfl rfl (E.PV.add_i64 rfl rfl rfl ?_) ?_; (focus (omega))
                        refine E.OW.pure rfl rfl rfl (E.PV.assign rfl rfl) ?_
                        refine E.OW.nil ?_
                        refine E.then_nf ?_
                        refine ⟨_, [(15, _), (14, _)], [0, 1, 1, 1], [_], ?_, by repeat (first | exact E.cov_nil | refine ⟨rfl, ?_⟩), rfl, m + 1, _, rfl, rfl, (by rw [show p = yP.x.n by omega, Rt.nxf_R rfl (by rw [show (m : Int) + 1 = ((m + 1 : Nat) : Int) by omega, Rt.phk_add (by omega)]; rfl)]), by omega⟩
                        omega))
              · simp only [E.b0, E.b1, E.b2, E.b3, E.b4, E.b5, E.b6, E.b7, E.b8, E.b9, E.b10, E.b11, E.b12, E.b13, E.b14, E.b15, E.b16, E.b17, E.b18, E.b19, E.b20, reduceCtorEq] at hc
                all_goals (
                  refine E.CW.exit ?_
                  refine E.then_x ?_
                  refine E.then_x ?_
                  refine E.blk_eq ?_
                  refine E.then_n ?_
                  refine E.CW.seq ?_
                  refine E.CW.region ?_
                  refine E.OW.pure rfl rfl rfl (E.PV.assign rfl rfl) ?_
                  refine E.OW.nil ?_
                  refine E.then_n ?_
                  refine E.CW.seq ?_
                  refine E.CW.seq ?_
                  refine E.CW.nilrow 3 1 ?_
                  refine E.CW.region ?_
                  refine E.OW.pure rfl rfl rfl (E.PV.move rfl rfl) ?_
                  refine E.OW.pure rfl rfl rfl (E.PV.len Try.underlying89 rfl rfl) ?_
                  refine E.OW.pure rfl rfl rfl (E.PV.move rfl rfl) ?_
                  refine E.OW.nil ?_
                  refine E.then_n ?_
                  refine E.CW.block ?_
                  refine E.CW.loopk [111, 112] 1 rfl rfl (fun mm mods Hm => ∃ k : Nat, ∃ A2 : Option Addr, ∃ e : Nat, mm = yP.x.n - k ∧ mods = [(113, .int .i64 k), (22, .slice A2 (Rt.pls k (Bf.R yP.x (Rt.phk yP.x.K tick) a.toNat m)).length e)] ∧ Hm = [E.HP.row 3 1 A2 (Rt.pls k (Bf.R yP.x (Rt.phk yP.x.K tick) a.toNat m)).length e (E.ints (Rt.pls k (Bf.R yP.x (Rt.phk yP.x.K tick) a.toNat m)))] ∧ k ≤ yP.x.n) (yP.x.n) ?_ ?_
                  · exact ⟨[(113, _), (22, _)], (by repeat (first | exact E.cov_nil | refine ⟨rfl, ?_⟩)), 0, none, 0, rfl, rfl, rfl, by omega⟩
                  · rintro _ _ _ ⟨k, A2, e, rfl, rfl, rfl, hk⟩
                    have hpl := Rt.pls_len k (Bf.R yP.x (Rt.phk yP.x.K tick) a.toNat m)
                    refine E.CW.seq ?_
                    refine E.CW.region ?_
                    refine E.OW.pure rfl rfl rfl (E.PV.lss rfl rfl rfl) ?_
                    refine E.OW.nil ?_
                    refine E.then_n ?_
                    refine E.CW.seq ?_
                    refine E.CW.cond rfl (fun hc => ?_) (fun hc => ?_)
                    · simp only [E.b0, E.b1, E.b2, E.b3, E.b4, E.b5, E.b6, E.b7, E.b8, E.b9, E.b10, E.b11, E.b12, E.b13, E.b14, E.b15, E.b16, E.b17, E.b18, E.b19, E.b20, reduceCtorEq] at hc
                      all_goals (
                        refine E.CW.skip ?_
                        refine E.then_n ?_
                        refine E.CW.seq ?_
                        refine E.CW.block ?_
                        refine E.CW.seq ?_
                        refine E.CW.region ?_
                        refine E.OW.pure rfl rfl rfl (E.PV.move rfl rfl) ?_
                        refine E.OW.pure rfl rfl rfl (E.PV.indexAddr1 (E.rdr (i := 1) rfl) Try.underlying89 in4 rfl rfl rfl rfl ?_ ?_) ?_; (focus (first | (simp; done) | (simp; omega))); (focus (omega))
                        refine E.OW.pure rfl rfl rfl (E.PV.load_bl (E.rdr (i := 1) rfl) na4 rfl rfl ?_) ?_; (focus (omega))
                        refine E.OW.pure rfl rfl rfl (E.PV.assign rfl rfl) ?_
                        refine E.OW.pure rfl rfl rfl (E.PV.assign rfl rfl) ?_
                        refine E.OW.nil ?_
                        refine E.then_n ?_
                        refine E.CW.seq ?_
                        refine E.CW.region ?_
                        refine E.OW.pure rfl rfl rfl (E.PV.move rfl rfl) ?_
                        refine E.OW.nil ?_
                        refine E.then_n ?_
                        refine E.CW.cond rfl (fun hc => ?_) (fun hc => ?_)
                        · skip
                          all_goals (
                            refine E.CW.region ?_
                            refine E.OW.pure rfl rfl rfl (E.PV.move rfl rfl) ?_
                            refine E.OW.pure rfl rfl rfl (E.PV.move rfl rfl) ?_
                            refine E.OW.buildSlice (Et := 3) (sz := 1) (ps := [(0, .tmp 120)]) rfl rfl rfl rfl rfl (by simp) (by unfold maxLen; omega) (fun w => bsl31_1_0 _ w) (fun A5 => ?_)
                            refine E.OW.app_int1 (j := 0) (i := 0) Try.underlying31 in3 rfl rfl rfl rfl rfl rfl rfl rfl rfl rfl ?_ (fun A6 c6 => ?_); (focus ((first | omega | (simp only [List.length_append, List.length_cons, List.length_nil] at *; omega) | (unfold maxLen at *; omega))))
                            refine E.OW.pure rfl rfl rfl (E.PV.assign rfl rfl) ?_
                            refine E.OW.nil ?_
                            refine E.blk_n ?_
                            refine E.then_n ?_
                            refine E.CW.region ?_
                            refine E.OW.pure rfl rfl rfl (E.PV.add_i64 rfl rfl rfl ?_) ?_; (focus (omega))
                            refine E.OW.pure rfl rfl rfl (E.PV.move rfl rfl) ?_
                            refine E.OW.nil ?_
                            refine E.then_nf ?_
                            refine ⟨_, [(113, _), (22, _)], [0, 0, 0, 0, 0], [_], ?_, by repeat (first | exact E.cov_nil | refine ⟨rfl, ?_⟩), rfl, k + 1, _, _, rfl, by rw [Rt.pls_yes (by assumption)]; rfl, by rw [Rt.pls_yes (by assumption)], by omega⟩
                            omega)
                        · skip
                          all_goals (
                            refine E.CW.skip ?_
                            refine E.blk_n ?_
                            refine E.then_n ?_
                            refine E.CW.region ?_
                            refine E.OW.pure rfl rfl rfl (E.PV.add_i64 rfl rfl rfl ?_) ?_; (focus (omega))
                            refine E.OW.pure rfl rfl rfl (E.PV.move rfl rfl) ?_
                            refine E.OW.nil ?_
                            refine E.then_nf ?_
                            refine ⟨_, [(113, _), (22, _)], [0, 0, 0, 0, 0], [_], ?_, by repeat (first | exact E.cov_nil | refine ⟨rfl, ?_⟩), rfl, k + 1, A2, e, rfl, by rw [Rt.pls_no (by assumption)]; rfl, by rw [Rt.pls_no (by assumption)], by omega⟩
                            omega))
                    · simp only [E.b0, E.b1, E.b2, E.b3, E.b4, E.b5, E.b6, E.b7, E.b8, E.b9, E.b10, E.b11, E.b12, E.b13, E.b14, E.b15, E.b16, E.b17, E.b18, E.b19, E.b20, reduceCtorEq] at hc
                      all_goals (
                        refine E.CW.exit ?_
                        refine E.then_x ?_
                        refine E.then_x ?_
                        refine E.blk_eq ?_
                        refine E.then_n ?_
                        refine E.CW.seq ?_
                        refine E.CW.region ?_
                        refine E.OW.pure rfl rfl rfl (E.PV.move rfl rfl) ?_
                        refine E.OW.pure rfl rfl rfl (E.PV.assign rfl rfl) ?_
                        refine E.OW.pure rfl rfl rfl (E.PV.assign rfl rfl) ?_
                        refine E.OW.nil ?_
                        refine E.then_n ?_
                        refine E.CW.ret ?_
                        refine E.KR.two [0] Try.results28 rfl rfl rfl ?_
                        obtain rfl : m = N := by omega
                        obtain rfl : k = yP.x.n := by omega
                        rw [show Rt.reachR g.q t a b tick (m : Int) = (Rt.pls yP.x.n (Bf.R yP.x (Rt.phk yP.x.K tick) a.toNat m), 0) from by rw [hyx]; exact (if_pos (by assumption)).trans (if_pos ⟨by omega, by omega⟩)]
                        exact ⟨_, _, rfl, rfl⟩)))))
end Go.Proofs.Ytflkbabhbnmajaa
