/- What the outright statements say of the plain model: no program in sight. -/
import Derived.Test.YteibcphdbkgcgaaFlT
namespace Go.Proofs.Yteibcphdbkgcgaa
namespace Fl
set_option linter.unusedVariables false
variable {w h p q x y d : Int}
theorem cells_ok (hv : valid w h = true) : cells w h = (w * h, 0) := by simp [cells, hv]
theorem cells_bad (hv : valid w h = false) : cells w h = (0, 2) := by simp [cells, hv]
theorem locate_bad (hv : has w h p = false) : locate w h p = (0, 0, 2) := by simp [locate, hv]
theorem locate_ok (hv : has w h p = true) : locate w h p = (p % w, p / w, 0) := by simp [locate, hv]
theorem has_bad (hv : valid w h = false) : has w h p = false := by simp [has, hv]
theorem place_bad (hv : valid w h = false) : place w h x y = (0, 2) := by simp [place, hv]
theorem locate_cases (hv : valid w h = true) : (0 ≤ p ∧ p < w * h ∧ locate w h p = (p % w, p / w, 0)) ∨ ((p < 0 ∨ w * h ≤ p) ∧ locate w h p = (0, 0, 2)) := by
  cases hh : has w h p with
  | true => have := has_iff.1 hh; exact .inl ⟨this.2.1, this.2.2, locate_ok hh⟩
  | false =>
    refine .inr ⟨?_, locate_bad hh⟩
    have : ¬ (0 ≤ p ∧ p < w * h) := fun e => by rw [has_iff.2 ⟨valid_iff.1 hv, e⟩] at hh; cases hh
    omega
theorem place_cases (hv : valid w h = true) : ((0 ≤ x ∧ x < w) ∧ (0 ≤ y ∧ y < h) ∧ place w h x y = (y * w + x, 0)) ∨ ((x < 0 ∨ w ≤ x ∨ y < 0 ∨ h ≤ y) ∧ place w h x y = (0, 2)) := by
  by_cases hh : (0 ≤ x ∧ x < w) ∧ (0 ≤ y ∧ y < h)
  · refine .inl ⟨hh.1, hh.2, ?_⟩
    simp [place, hv, inB_iff.2 hh.1, inB_iff.2 hh.2]
  · refine .inr ⟨by omega, ?_⟩
    unfold place
    rw [if_neg]
    simp only [Bool.and_eq_true, inB_iff, hv, true_and]
    exact hh
theorem place_back (hv : valid w h = true) (hp : 0 ≤ p ∧ p < w * h) : place w h (p % w) (p / w) = (p, 0) := place_found (valid_iff.1 hv) hp rfl rfl
theorem locate_back (hv : valid w h = true) (hx : 0 ≤ x ∧ x < w) (hy : 0 ≤ y ∧ y < h) : locate w h (y * w + x) = (x, y, 0) := by
  have hw := valid_iff.1 hv
  have hc := coord (y := y) hx
  rw [locate_ok (has_iff.2 ⟨hw, coord_lt hw hx hy⟩), hc.1, hc.2]
/-- the four ways of a step. -/
theorem step_cases : (has w h p = true ∧ (0 ≤ d ∧ d < 4) ∧ 0 ≤ mv w h p d ∧ step w h p d = (mv w h p d, 0)) ∨ (has w h p = true ∧ (0 ≤ d ∧ d < 4) ∧ mv w h p d < 0 ∧ step w h p d = (0, 6)) ∨
    ((has w h p = false ∨ d < 0 ∨ 4 ≤ d) ∧ step w h p d = (0, 2)) := by
  cases hh : has w h p with
  | false => exact .inr (.inr ⟨.inl rfl, step_bad2 hh⟩)
  | true =>
    by_cases hd : 0 ≤ d ∧ d < 4
    · rw [step_mv hh hd]
      by_cases hm : mv w h p d < 0
      · exact .inr (.inl ⟨rfl, hd, hm, if_pos hm⟩)
      · exact .inl ⟨rfl, hd, by omega, if_neg hm⟩
    · exact .inr (.inr ⟨.inr (by omega), step_bad (by omega)⟩)
theorem mv_has (hh : has w h p = true) (h0 : 0 ≤ mv w h p d) : has w h (mv w h p d) = true := by
  have := has_iff.1 hh
  exact has_iff.2 ⟨this.1, h0, mv_ge this.1 h0⟩
theorem dir4 (hd : 0 ≤ d ∧ d < 4) : d = 0 ∨ d = 1 ∨ d = 2 ∨ d = 3 := by omega
theorem step_of_mv (hh : has w h p = true) (hd : 0 ≤ d ∧ d < 4) (hq : has w h q = true) (he : mv w h p d = q) : step w h p d = (q, 0) := by
  have := has_iff.1 hq
  rw [step_mv hh hd, he, if_neg (by omega)]
theorem turn_back (hh : has w h p = true) (hd : 0 ≤ d ∧ d < 4) (h0 : 0 ≤ mv w h p d) : step w h (mv w h p d) ((d + 2) % 4) = (p, 0) := by
  have hp := has_iff.1 hh
  have h1 := mv_has hh h0
  obtain ⟨a1, a2⟩ := (mv_iff hp.1 (has_iff.1 h1).2).1 rfl
  refine step_of_mv h1 (by omega) hh ((mv_iff hp.1 hp.2).2 ?_)
  rcases dir4 hd with rfl | rfl | rfl | rfl <;> rw [a1, a2] <;> simp [dx, dy] <;> omega
/-- a step along a row and one along a column. -/
theorem turn_comm {d2 : Int} (hh : has w h p = true) (hd : 0 ≤ d ∧ d < 4) (hd2 : 0 ≤ d2 ∧ d2 < 4) (h0 : 0 ≤ mv w h p d) (h2 : 0 ≤ mv w h p d2) (hpar : ¬ (d + d2) % 2 = 0) :
    ∃ r, step w h (mv w h p d) d2 = (r, 0) ∧ step w h (mv w h p d2) d = (r, 0) := by
  have hp := has_iff.1 hh
  have h1 := mv_has hh h0
  have h3 := mv_has hh h2
  have hr1 := has_iff.1 h1
  have hr2 := has_iff.1 h3
  obtain ⟨a1, a2⟩ := (mv_iff hp.1 hr1.2).1 rfl
  obtain ⟨b1, b2⟩ := (mv_iff hp.1 hr2.2).1 rfl
  have d1 := div_b hp.1 hr1.2
  have d3 := div_b hp.1 hr2.2
  have d0 := div_b hp.1 hp.2
  have key : ∀ X Y : Int, 0 ≤ X ∧ X < w → 0 ≤ Y ∧ Y < h → X = p % w + dx d + dx d2 → Y = p / w + dy d + dy d2 → ∃ r, step w h (mv w h p d) d2 = (r, 0) ∧ step w h (mv w h p d2) d = (r, 0) := by
    intro X Y hX hY e1 e2
    have hl := coord_lt hp.1 hX hY
    have hr : has w h (Y * w + X) = true := has_iff.2 ⟨hp.1, hl⟩
    exact ⟨Y * w + X, step_of_mv h1 hd2 hr (mv_to hp.1 hX hY (by rw [a1]; omega) (by rw [a2]; omega)), step_of_mv h3 hd hr (mv_to hp.1 hX hY (by rw [b1]; omega) (by rw [b2]; omega))⟩
  have hx0 : (dx d = 0 ∧ dy d2 = 0) ∨ (dy d = 0 ∧ dx d2 = 0) := by
    clear key d0 d1 d3 a1 a2 b1 b2 hr1 hr2 h3 h1 hp hh h0 h2
    rcases dir4 hd with rfl | rfl | rfl | rfl <;> rcases dir4 hd2 with rfl | rfl | rfl | rfl <;> first | (exact .inl ⟨rfl, rfl⟩) | (exact .inr ⟨rfl, rfl⟩) | (exfalso; revert hpar; decide)
  rw [a1, a2] at d1
  rw [b1, b2] at d3
  rcases hx0 with ⟨e1, e2⟩ | ⟨e1, e2⟩
  · exact key (p % w + dx d + dx d2) (p / w + dy d + dy d2) (by omega) (by omega) rfl rfl
  · exact key (p % w + dx d + dx d2) (p / w + dy d + dy d2) (by omega) (by omega) rfl rfl
theorem distance_ok (hp : has w h p = true) (hq : has w h q = true) : distance w h p q = (dist w p q, 0) := by simp [distance, hp, hq]
theorem step_two (hh : has w h p = true) (hd : 0 ≤ d ∧ d < 4) : (0 ≤ mv w h p d ∧ step w h p d = (mv w h p d, 0)) ∨ (mv w h p d < 0 ∧ step w h p d = (0, 6)) := by
  rw [step_mv hh hd]
  by_cases hm : mv w h p d < 0
  · exact .inr ⟨hm, if_pos hm⟩
  · exact .inl ⟨by omega, if_neg hm⟩
theorem ex_succ {A : Prop} {Q : Nat → Prop} {k : Nat} {cl c : Bool} (hI : (A ∨ ∃ j : Nat, j < k ∧ Q j) → cl = true) (hc : cl = false) (hk : Q k → c = true) (hx : A ∨ ∃ j : Nat, j < k + 1 ∧ Q j) : c = true := by
  rcases hx with hx | ⟨j, hj, hq⟩
  · rw [hI (.inl hx)] at hc; cases hc
  · rcases Nat.lt_succ_iff_lt_or_eq.1 hj with h | rfl
    · rw [hI (.inr ⟨j, h, hq⟩)] at hc; cases hc
    · exact hk hq
theorem ex_same {A : Prop} {Q : Nat → Prop} {k : Nat} {cl : Bool} (hI : (A ∨ ∃ j : Nat, j < k ∧ Q j) → cl = true) (hk : ¬ Q k) (hx : A ∨ ∃ j : Nat, j < k + 1 ∧ Q j) : cl = true := by
  rcases hx with hx | ⟨j, hj, hq⟩
  · exact hI (.inl hx)
  · rcases Nat.lt_succ_iff_lt_or_eq.1 hj with h | rfl
    · exact hI (.inr ⟨j, h, hq⟩)
    · exact absurd hq hk
theorem closer_all {k : Nat} (hp : has w h p = true) (hq : has w h q = true) (hk : 4 ≤ k) : dist w p q = 0 ∨ ∃ j : Nat, j < k ∧ 0 ≤ mv w h p j ∧ dist w (mv w h p j) q = dist w p q - 1 := by
  have h1 := has_iff.1 hp; have h2 := has_iff.1 hq
  by_cases hn : p = q
  · exact .inl (dist_zero.2 hn)
  · obtain ⟨d, hd, h0, _, he⟩ := dist_closer h1.1 h1.2 h2.2 hn
    exact .inr ⟨d, by omega, h0, he⟩
/-- one step of a walk: where it leads, or that it is not possible. -/
theorem walk_ex (hh : has w h p = true) (hd : 0 ≤ d ∧ d < 4) : ∃ q e : Int, step w h p d = (q, e) ∧
    ((e = 0 ∧ (0 ≤ p % w + dx d ∧ p % w + dx d < w ∧ 0 ≤ p / w + dy d ∧ p / w + dy d < h) ∧ has w h q = true ∧ adjacent w h p q = (true, 0) ∧ q % w = p % w + dx d ∧ q / w = p / w + dy d) ∨
     (q = 0 ∧ e = 6 ∧ (p % w + dx d < 0 ∨ w ≤ p % w + dx d ∨ p / w + dy d < 0 ∨ h ≤ p / w + dy d))) := by
  have hp := has_iff.1 hh
  rcases step_two hh hd with ⟨h0, hs⟩ | ⟨h0, hs⟩
  · have hq := mv_has hh h0
    have hq2 := has_iff.1 hq
    obtain ⟨a1, a2⟩ := (mv_iff hp.1 hq2.2).1 rfl
    have hb := div_b hp.1 hq2.2
    rw [a1, a2] at hb
    refine ⟨_, _, hs, .inl ⟨rfl, by omega, hq, ?_, a1, a2⟩⟩
    have hk : mv w h p ((d.toNat : Nat) : Int) = mv w h p d := by rw [Int.toNat_of_nonneg hd.1]
    exact adj_yes hh hq (k := d.toNat) (by omega) hk
  · refine ⟨_, _, hs, .inr ⟨rfl, rfl, ?_⟩⟩
    rw [mv_def] at h0
    split at h0
    · rename_i hc
      simp only [Bool.and_eq_true, inB_iff] at hc
      have := (coord_lt hp.1 hc.1.2 hc.2).1
      omega
    · rename_i hc
      simp only [Bool.and_eq_true, inB_iff, valid_iff] at hc
      omega
theorem dxy (hd : 0 ≤ d ∧ d < 4) : (d = 0 ∧ dx d = 0 ∧ dy d = -1) ∨ (d = 1 ∧ dx d = 1 ∧ dy d = 0) ∨ (d = 2 ∧ dx d = 0 ∧ dy d = 1) ∨ (d = 3 ∧ dx d = -1 ∧ dy d = 0) := by
  rcases dir4 hd with rfl | rfl | rfl | rfl <;> simp [dx, dy]
theorem ne_dec {p q : Prop} [Decidable p] [Decidable q] (h : p ↔ q) : (!(decide p == decide q)) = false := by simp [h]
/-! ### Slice tables -/
section
variable {l : List UInt8} {tick t : Int}
theorem ent_later (m : Int) (k : Nat) : ent l (tick + m * (l.length : Int)) k = ent l tick k := by unfold ent; rw [Int.add_mul_emod_self_right]
theorem sown_later (m : Int) (k : Nat) : sown l (tick + m * (l.length : Int)) k = sown l tick k := by unfold sown; rw [ent_later]
theorem runN_later (m t : Int) (b : Bool) : ∀ f k, runN l (tick + m * (l.length : Int)) t b f k = runN l tick t b f k := by
  intro f
  induction f with
  | zero => intro k; rfl
  | succ f ih => intro k; simp only [runN, sown_later, ih]
theorem run_later (m t : Int) (b : Bool) : run l (tick + m * (l.length : Int)) t b = run l tick t b := runN_later m t b _ _
theorem owner_later (m : Int) : sliceOwner l (tick + m * (l.length : Int)) = sliceOwner l tick := by simp only [sliceOwner, sown_later]
theorem left_later (m : Int) : sliceLeft l (tick + m * (l.length : Int)) t = sliceLeft l tick t := by simp only [sliceLeft, run_later]
theorem wait_later (m : Int) : sliceWait l (tick + m * (l.length : Int)) t = sliceWait l tick t := by simp only [sliceWait, run_later]
theorem owner_ok (hs : validS l = true) : sliceOwner l tick = (sown l tick 0, 0) := if_pos hs
theorem ent_shift (h : 1 ≤ l.length) (k : Nat) : ent l (tick + (k : Int)) 0 = ent l tick k := by
  have h1 := ent_cast (l := l) (tick := tick + k) h 0
  have h2 := ent_cast (l := l) (tick := tick) h k
  simp only [Int.natCast_zero, Int.add_zero, Int.emod_emod_of_dvd _ (Int.dvd_refl _)] at h1
  rw [Int.emod_add_emod] at h2
  have : ((ent l (tick + k) 0 : Nat) : Int) = (ent l tick k : Nat) := by rw [h1, h2]
  omega
theorem owner_shift (hs : validS l = true) (k : Nat) : sliceOwner l (tick + (k : Int)) = (sown l tick k, 0) := by
  rw [owner_ok hs]; unfold sown; rw [ent_shift (validS_iff.1 hs).1.1]
theorem runN_all (b : Bool) : ∀ f k j, k ≤ j → j < runN l tick t b f k → decide (sown l tick j = t) = b := by
  intro f
  induction f with
  | zero => intro k j h1 h2; simp only [runN] at h2; omega
  | succ f ih =>
    intro k j h1 h2
    unfold runN at h2
    split at h2
    · rename_i hb
      by_cases e : k = j
      · rw [← e]; exact hb
      · exact ih (k + 1) j (by omega) h2
    · omega
theorem run_all {b : Bool} {j : Nat} (h : j < run l tick t b) : decide (sown l tick j = t) = b := runN_all b l.length 0 j (Nat.zero_le _) h
theorem runN_out (b : Bool) : ∀ f k, runN l tick t b f k < k + f → ¬ decide (sown l tick (runN l tick t b f k) = t) = b := by
  intro f
  induction f with
  | zero => intro k h; simp only [runN] at h; omega
  | succ f ih =>
    intro k h
    unfold runN at h ⊢
    split at h
    · rename_i hb; rw [if_pos hb]; exact ih (k + 1) (by omega)
    · rename_i hb; rw [if_neg hb]; exact hb
theorem run_out {b : Bool} (h : run l tick t b < l.length) : ¬ decide (sown l tick (run l tick t b) = t) = b := by
  have h' : runN l tick t b l.length 0 < 0 + l.length := by rw [Nat.zero_add]; exact h
  exact runN_out b l.length 0 h'
theorem left_ok (hs : validS l = true) (hi : inB t 3 = true) : sliceLeft l tick t = (((run l tick t true : Nat) : Int), 0) := by simp [sliceLeft, hs, hi]
theorem wait_cases (hs : validS l = true) (hi : inB t 3 = true) : (run l tick t false < l.length ∧ sliceWait l tick t = (((run l tick t false : Nat) : Int), 0)) ∨ (run l tick t false = l.length ∧ run l tick t true = 0 ∧ sliceWait l tick t = (0, 6)) := by
  have h1 := run_le l tick t false
  have h2 := (validS_iff.1 hs).1
  by_cases h : run l tick t false = l.length
  · refine .inr ⟨h, ?_, by simp [sliceWait, hs, hi, h]⟩
    rcases Nat.eq_zero_or_pos (run l tick t true) with h3 | h3
    · exact h3
    · have a := run_all (l := l) (tick := tick) (t := t) (b := true) (j := 0) h3
      have b := run_all (l := l) (tick := tick) (t := t) (b := false) (j := 0) (by omega)
      rw [a] at b; cases b
  · exact .inl ⟨by omega, by simp [sliceWait, hs, hi, h]⟩
theorem wait_ex (hs : validS l = true) (hi : inB t 3 = true) : ∃ m e : Int, sliceWait l tick t = (m, e) ∧ ((run l tick t false < l.length ∧ m = (run l tick t false : Nat) ∧ e = 0) ∨ (run l tick t false = l.length ∧ run l tick t true = 0 ∧ m = 0 ∧ e = 6)) := by
  rcases wait_cases (tick := tick) hs hi with ⟨h1, h2⟩ | ⟨h1, h2, h3⟩
  · exact ⟨_, _, h2, .inl ⟨h1, rfl, rfl⟩⟩
  · exact ⟨_, _, h3, .inr ⟨h1, h2, rfl, rfl⟩⟩
theorem left_at {k : Nat} (hk : k < l.length) : ¬ (k ≤ run l tick t true) ∨ (sown l tick k = t ∧ k < run l tick t true) ∨ (¬ sown l tick k = t ∧ ¬ k < run l tick t true) := by
  by_cases h : k < run l tick t true
  · exact .inr (.inl ⟨by simpa using run_all h, h⟩)
  · by_cases h2 : k = run l tick t true
    · refine .inr (.inr ⟨?_, h⟩)
      have := run_out (l := l) (tick := tick) (t := t) (b := true) (by omega)
      rw [← h2] at this
      simpa using this
    · exact .inl (by omega)
theorem wait_at {k : Nat} (hk : k < l.length) : (¬ sown l tick k = t ∨ (run l tick t false < l.length ∧ run l tick t false ≤ k)) ∧ (sown l tick k = t ∨ ¬ k = run l tick t false) := by
  constructor
  · by_cases h : k < run l tick t false
    · left; simpa using run_all h
    · by_cases e : sown l tick k = t
      · exact .inr ⟨by omega, by omega⟩
      · exact .inl e
  · by_cases h2 : k = run l tick t false
    · left
      have := run_out (l := l) (tick := tick) (t := t) (b := false) (by omega)
      rw [← h2] at this
      simpa using this
    · exact .inr h2
theorem sown_at {k : Nat} (hk : k < l.length) : sown l (k : Int) 0 = ((l.getD k 0).toNat : Int) - 1 := by
  have : ent l (k : Int) 0 = k := by unfold ent; rw [Int.emod_eq_of_lt (by omega) (by omega)]; simp [Nat.mod_eq_of_lt hk]
  unfold sown; rw [this]
theorem owner_at {k : Nat} (hs : validS l = true) (hk : k < l.length) : sliceOwner l (k : Int) = (((l.getD k 0).toNat : Int) - 1, 0) := by rw [owner_ok hs, sown_at hk]
theorem code_le {k : Nat} (hs : validS l = true) (hk : k < l.length) : (l.getD k 0).toNat ≤ 3 := (validS_iff.1 hs).2 _ (getD_mem hk)
end
/-! ### One cell replaced -/
theorem validF_set_bad {l : List UInt8} {i : Nat} {c : UInt8} (hi : i < l.length) (hc : okc c = false) : validF w h (l.set i c) = false :=
  validF_bad (k := i) (by simpa using hi) (by simpa [List.getD, hi] using hc)
theorem validF_set {l : List UInt8} {i : Nat} {c : UInt8} (hv : validF w h l = true) (hc : okc c = true) : validF w h (l.set i c) = true := by
  obtain ⟨⟨h1, h2⟩, h3⟩ := validF_iff.1 hv
  refine validF_iff.2 ⟨⟨h1, by simpa using h2⟩, fun x hx => ?_⟩
  rcases List.mem_or_eq_of_mem_set hx with hx | rfl
  · exact h3 x hx
  · exact hc
theorem owner_set_same {l : List UInt8} {c : UInt8} (hv : validF w h l = true) (hc : okc c = true) (hp : 0 ≤ p ∧ p < l.length) : owner w h (l.set p.toNat c) p = (ownerC c, 0) := by
  have hh : has w h p = true := has_iff.2 ⟨valid_iff.1 (validF_iff.1 hv).1.1, by rw [← (validF_iff.1 hv).1.2]; exact hp⟩
  unfold owner
  rw [if_pos (validF_set hv hc), if_pos hh]
  simp [List.getD, show p.toNat < l.length by omega]
theorem owner_set_err {l : List UInt8} {i : Nat} {c : UInt8} (hv : validF w h l = true) (hc : okc c = true) : (owner w h (l.set i c) q).2 = (owner w h l q).2 := by
  unfold owner
  rw [if_pos (validF_set hv hc), if_pos hv]
  split <;> rfl
theorem owner_set_other {l : List UInt8} {c : UInt8} (hv : validF w h l = true) (hc : okc c = true) (hp : 0 ≤ p) (hn : ¬ p = q) : (owner w h (l.set p.toNat c) q).1 = (owner w h l q).1 := by
  unfold owner
  rw [if_pos (validF_set hv hc), if_pos hv]
  split
  · rename_i hh
    have := has_iff.1 hh
    have hne : ¬ p.toNat = q.toNat := by omega
    simp [List.getD, List.getElem?_set_ne hne]
  · rfl
theorem own_val (c : UInt8) : (¬ (c.toNat : Int) = 255 ∨ ownerC c = -2) ∧ ((c.toNat : Int) = 255 ∨ ownerC c = (c.toNat : Int) - 1) := by
  unfold ownerC
  split
  · omega
  · split <;> omega
end Fl
end Go.Proofs.Yteibcphdbkgcgaa
