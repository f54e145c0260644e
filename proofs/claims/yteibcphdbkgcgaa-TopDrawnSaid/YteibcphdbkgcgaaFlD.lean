/- The floor's metric, and the search that finds it: no program in sight. -/
import Derived.Test.YteibcphdbkgcgaaFl
namespace Go.Proofs.Yteibcphdbkgcgaa
namespace Fl
set_option linter.unusedVariables false
theorem coord {w x y : Int} (hx : 0 ≤ x ∧ x < w) : (y * w + x) % w = x ∧ (y * w + x) / w = y := by
  constructor
  · rw [Int.add_comm, Int.add_mul_emod_self_right]; exact Int.emod_eq_of_lt hx.1 hx.2
  · rw [Int.add_comm, Int.add_mul_ediv_right _ _ (by omega), Int.ediv_eq_zero_of_lt hx.1 hx.2]; omega
theorem coord_lt {w h x y : Int} (hw : 2 ≤ w ∧ w ≤ 8 ∧ 2 ≤ h ∧ h ≤ 8) (hx : 0 ≤ x ∧ x < w) (hy : 0 ≤ y ∧ y < h) : 0 ≤ y * w + x ∧ y * w + x < w * h := by
  have h0 : 0 ≤ y * w := Int.mul_nonneg (by omega) (by omega)
  have h1 : y * w ≤ (h - 1) * w := Int.mul_le_mul_of_nonneg_right (by omega) (by omega)
  rw [Int.sub_mul, Int.mul_comm h w] at h1
  omega
theorem recoord {w p : Int} : p / w * w + p % w = p := by
  have := Int.emod_add_mul_ediv p w
  rw [Int.mul_comm]; omega
theorem same_coord {w p q : Int} (h1 : p % w = q % w) (h2 : p / w = q / w) : p = q := by
  rw [← @recoord w p, ← @recoord w q, h1, h2]
theorem mv_def (w h p d : Int) : mv w h p d = if valid w h && inB (p % w + dx d) w && inB (p / w + dy d) h then (p / w + dy d) * w + (p % w + dx d) else -1 := by
  unfold mv moved at_
  cases hc : (valid w h && inB (p % w + dx d) w && inB (p / w + dy d) h) <;> simp
/-- a step leads to q exactly if q has the coordinates. -/
theorem mv_iff {w h p q d : Int} (hw : 2 ≤ w ∧ w ≤ 8 ∧ 2 ≤ h ∧ h ≤ 8) (hq : 0 ≤ q ∧ q < w * h) : mv w h p d = q ↔ q % w = p % w + dx d ∧ q / w = p / w + dy d := by
  have hb := div_b hw hq
  rw [mv_def]
  constructor
  · intro e
    split at e
    · rename_i hc2
      simp only [Bool.and_eq_true, inB_iff] at hc2
      have := coord (y := p / w + dy d) hc2.1.2
      rw [e] at this
      exact this
    · omega
  · intro ⟨e1, e2⟩
    have hc : (valid w h && inB (p % w + dx d) w && inB (p / w + dy d) h) = true := by
      simp only [Bool.and_eq_true, inB_iff, valid_iff]; omega
    rw [if_pos hc, ← e1, ← e2]
    exact recoord
theorem mv_ge {w h p d : Int} (hw : 2 ≤ w ∧ w ≤ 8 ∧ 2 ≤ h ∧ h ≤ 8) (h0 : 0 ≤ mv w h p d) : mv w h p d < w * h := by
  rw [mv_def] at *
  split at h0
  · rename_i hc2
    rw [if_pos hc2]
    simp only [Bool.and_eq_true, inB_iff] at hc2
    exact (coord_lt hw hc2.1.2 hc2.2).2
  · omega
def ab (n : Int) : Int := if n < -n then -n else n
theorem dist_ab (w p q : Int) : dist w p q = ab (p % w - q % w) + ab (p / w - q / w) := rfl
theorem ab_cases (n : Int) : (0 ≤ n ∧ ab n = n) ∨ (n < 0 ∧ ab n = -n) := by unfold ab; split <;> omega
theorem dist_nn (w p q : Int) : 0 ≤ dist w p q := by
  rw [dist_ab]
  rcases ab_cases (p % w - q % w) with h1 | h1 <;> rcases ab_cases (p / w - q / w) with h2 | h2 <;> omega
theorem dist_zero {w p q : Int} : dist w p q = 0 ↔ p = q := by
  rw [dist_ab]
  constructor
  · intro h
    apply same_coord (w := w) <;> rcases ab_cases (p % w - q % w) with h1 | h1 <;> rcases ab_cases (p / w - q / w) with h2 | h2 <;> omega
  · rintro rfl
    rcases ab_cases (p % w - p % w) with h1 | h1 <;> rcases ab_cases (p / w - p / w) with h2 | h2 <;> omega
theorem dist_comm (w p q : Int) : dist w p q = dist w q p := by
  rw [dist_ab, dist_ab]
  rcases ab_cases (p % w - q % w) with h1 | h1 <;> rcases ab_cases (p / w - q / w) with h2 | h2 <;> rcases ab_cases (q % w - p % w) with h3 | h3 <;> rcases ab_cases (q / w - p / w) with h4 | h4 <;> omega
theorem dist_tri (w p q r : Int) : dist w p r ≤ dist w p q + dist w q r := by
  rw [dist_ab, dist_ab, dist_ab]
  have e1 : p % w - r % w = (p % w - q % w) + (q % w - r % w) := by omega
  have e2 : p / w - r / w = (p / w - q / w) + (q / w - r / w) := by omega
  rw [e1, e2]
  generalize p % w - q % w = a
  generalize q % w - r % w = b
  generalize p / w - q / w = c
  generalize q / w - r / w = d
  have h (m n : Int) : ab (m + n) ≤ ab m + ab n := by
    rcases ab_cases (m + n) with h1 | h1 <;> rcases ab_cases m with h2 | h2 <;> rcases ab_cases n with h3 | h3 <;> omega
  have := h a b
  have := h c d
  omega
theorem dir_cases {d : Nat} (h : d < 4) : d = 0 ∨ d = 1 ∨ d = 2 ∨ d = 3 := by omega
/-- a step changes the distance by 1. -/
theorem dist_mv {w h p q r : Int} {d : Nat} (hw : 2 ≤ w ∧ w ≤ 8 ∧ 2 ≤ h ∧ h ≤ 8) (hr : 0 ≤ r ∧ r < w * h) (hd : d < 4) (he : mv w h p d = r) : dist w r q = dist w p q + 1 ∨ dist w r q = dist w p q - 1 := by
  obtain ⟨e1, e2⟩ := (mv_iff hw hr).1 he
  rw [dist_ab, dist_ab, e1, e2]
  rcases dir_cases hd with rfl | rfl | rfl | rfl <;> simp [dx, dy] <;>
    rcases ab_cases (p % w - q % w) with h1 | h1 <;> rcases ab_cases (p / w - q / w) with h2 | h2 <;> unfold ab <;> (repeat' split) <;> omega
/-- the place that some coordinates name. -/
theorem mv_to {w h p x y d : Int} (hw : 2 ≤ w ∧ w ≤ 8 ∧ 2 ≤ h ∧ h ≤ 8) (hx : 0 ≤ x ∧ x < w) (hy : 0 ≤ y ∧ y < h) (e1 : x = p % w + dx d) (e2 : y = p / w + dy d) : mv w h p d = y * w + x := by
  have hc := coord (y := y) hx
  exact (mv_iff hw (coord_lt hw hx hy)).2 ⟨by rw [hc.1]; exact e1, by rw [hc.2]; exact e2⟩
/-- some step reduces the distance. -/
theorem dist_closer {w h p q : Int} (hw : 2 ≤ w ∧ w ≤ 8 ∧ 2 ≤ h ∧ h ≤ 8) (hp : 0 ≤ p ∧ p < w * h) (hq : 0 ≤ q ∧ q < w * h) (hn : p ≠ q) : ∃ d : Nat, d < 4 ∧ 0 ≤ mv w h p d ∧ mv w h p d < w * h ∧ dist w (mv w h p d) q = dist w p q - 1 := by
  have hb := div_b hw hp
  have hb2 := div_b hw hq
  have key : ∀ (d : Nat) (x y : Int), d < 4 → 0 ≤ x ∧ x < w → 0 ≤ y ∧ y < h → x = p % w + dx d → y = p / w + dy d → ab (x - q % w) + ab (y - q / w) = ab (p % w - q % w) + ab (p / w - q / w) - 1 → ∃ d : Nat, d < 4 ∧ 0 ≤ mv w h p d ∧ mv w h p d < w * h ∧ dist w (mv w h p d) q = dist w p q - 1 := by
    intro d x y hd hx hy e1 e2 e3
    have e := mv_to hw hx hy e1 e2
    have hl := coord_lt hw hx hy
    have hc := coord (y := y) hx
    exact ⟨d, hd, by rw [e]; exact hl.1, by rw [e]; exact hl.2, by rw [e, dist_ab, dist_ab, hc.1, hc.2, e3]⟩
  have hne : ¬ (p % w = q % w ∧ p / w = q / w) := fun hh => hn (same_coord hh.1 hh.2)
  have hA : ∀ n, ab n = if n < -n then -n else n := fun _ => rfl
  by_cases h1 : p % w < q % w
  · refine key 1 (p % w + 1) (p / w) (by omega) (by omega) (by omega) (by simp [dx]) (by simp [dy]) ?_
    rw [hA (p % w + 1 - q % w), hA (p % w - q % w)]; (repeat' split) <;> omega
  · by_cases h2 : q % w < p % w
    · refine key 3 (p % w - 1) (p / w) (by omega) (by omega) (by omega) (by simp [dx]; omega) (by simp [dy]) ?_
      rw [hA (p % w - 1 - q % w), hA (p % w - q % w)]; (repeat' split) <;> omega
    · by_cases h3 : p / w < q / w
      · refine key 2 (p % w) (p / w + 1) (by omega) (by omega) (by omega) (by simp [dx]) (by simp [dy]) ?_
        rw [hA (p / w + 1 - q / w), hA (p / w - q / w)]; (repeat' split) <;> omega
      · refine key 0 (p % w) (p / w - 1) (by omega) (by omega) (by omega) (by simp [dx]) (by simp [dy]; omega) ?_
        rw [hA (p / w - 1 - q / w), hA (p / w - q / w)]; (repeat' split) <;> omega
/-- the distance 1: a step. -/
theorem dist_one {w h p q : Int} (hw : 2 ≤ w ∧ w ≤ 8 ∧ 2 ≤ h ∧ h ≤ 8) (hp : 0 ≤ p ∧ p < w * h) (hq : 0 ≤ q ∧ q < w * h) : dist w p q = 1 ↔ ∃ d : Nat, d < 4 ∧ mv w h p d = q := by
  constructor
  · intro h1
    obtain ⟨d, hd, h0, hl, he⟩ := dist_closer hw hp hq (fun e => by rw [dist_zero.2 e] at h1; omega)
    exact ⟨d, hd, (dist_zero (w := w)).1 (by omega)⟩
  · rintro ⟨d, hd, he⟩
    have h1 := dist_mv (q := q) hw hq hd he
    rw [dist_zero.2 rfl] at h1
    have := dist_nn w p q
    omega
theorem adj_yes {w h p q : Int} {k : Nat} (hp : has w h p = true) (hq : has w h q = true) (hk : k < 4) (he : mv w h p k = q) : adjacent w h p q = (true, 0) := by
  have h1 := has_iff.1 hp; have h2 := has_iff.1 hq
  have := (dist_one h1.1 h1.2 h2.2).2 ⟨k, hk, he⟩
  simp [adjacent, distance, hp, hq, this]
theorem adj_no {w h p q : Int} (hp : has w h p = true) (hq : has w h q = true) (hn : ∀ j : Nat, j < 4 → ¬ mv w h p j = q) : adjacent w h p q = (false, 0) := by
  have h1 := has_iff.1 hp; have h2 := has_iff.1 hq
  have : ¬ dist w p q = 1 := fun e => by obtain ⟨d, hd, he⟩ := (dist_one h1.1 h1.2 h2.2).1 e; exact hn d hd he
  simp [adjacent, distance, hp, hq, this]

/-! ### The search -/
def Rk (w h p : Int) (k : Nat) (r : Nat → Bool) : Prop := ∀ t : Nat, t < 64 → (r t = true ↔ (t : Int) < w * h ∧ dist w p t ≤ k)
def Nx (w h : Int) (r : Nat → Bool) (s d : Nat) (g : Nat → Bool) : Prop :=
  ∀ t : Nat, t < 64 → (g t = true ↔ r t = true ∨ ∃ s' d' : Nat, r s' = true ∧ (s' : Int) < w * h ∧ d' < 4 ∧ (s' < s ∨ s' = s ∧ d' < d) ∧ mv w h s' d' = t)
theorem Rk_start {w h p : Int} (hp : has w h p = true) : Rk w h p 0 (fun i => if i = p.toNat then true else false) := by
  intro t ht
  have h1 := has_iff.1 hp
  have h0 := dist_nn w p t
  constructor
  · intro e
    simp at e
    have : (t : Int) = p := by omega
    rw [this, dist_zero.2 rfl]; omega
  · intro ⟨e1, e2⟩
    have := (dist_zero (w := w) (p := p) (q := t)).1 (by omega)
    simp; omega
theorem Nx_start {w h : Int} {r : Nat → Bool} : Nx w h r 0 0 r := by
  intro t ht
  constructor
  · exact .inl
  · rintro (e | ⟨s, d, _, _, _, h | h, _⟩)
    · exact e
    · omega
    · omega
theorem Nx_add {w h : Int} {r g : Nat → Bool} {s d : Nat} (hg : Nx w h r s d g) (hr : r s = true) (hs : (s : Int) < w * h) (hd : d < 4) (h0 : 0 ≤ mv w h s d) : Nx w h r s (d + 1) (fun i => if i = (mv w h s d).toNat then true else g i) := by
  intro t ht
  have := hg t ht
  by_cases e : t = (mv w h s d).toNat
  · simp only [e, if_true, true_iff]
    exact .inr ⟨s, d, hr, hs, hd, .inr ⟨rfl, by omega⟩, by omega⟩
  · simp only [if_neg e]
    rw [this]
    constructor
    · rintro (h1 | ⟨s', d', h1, h2, h3, h4, h5⟩)
      · exact .inl h1
      · exact .inr ⟨s', d', h1, h2, h3, by omega, h5⟩
    · rintro (h1 | ⟨s', d', h1, h2, h3, h4, h5⟩)
      · exact .inl h1
      · refine .inr ⟨s', d', h1, h2, h3, ?_, h5⟩
        rcases h4 with h4 | ⟨rfl, h4⟩
        · exact .inl h4
        · refine .inr ⟨rfl, ?_⟩
          rcases Nat.lt_succ_iff_lt_or_eq.1 h4 with h6 | rfl
          · exact h6
          · exfalso; apply e; rw [h5]; simp
theorem Nx_skip {w h : Int} {r g : Nat → Bool} {s d : Nat} (hg : Nx w h r s d g) (h0 : mv w h s d < 0) : Nx w h r s (d + 1) g := by
  intro t ht
  rw [hg t ht]
  constructor
  · rintro (h1 | ⟨s', d', h1, h2, h3, h4, h5⟩)
    · exact .inl h1
    · exact .inr ⟨s', d', h1, h2, h3, by omega, h5⟩
  · rintro (h1 | ⟨s', d', h1, h2, h3, h4, h5⟩)
    · exact .inl h1
    · refine .inr ⟨s', d', h1, h2, h3, ?_, h5⟩
      rcases h4 with h4 | ⟨rfl, h4⟩
      · exact .inl h4
      · refine .inr ⟨rfl, ?_⟩
        rcases Nat.lt_succ_iff_lt_or_eq.1 h4 with h6 | rfl
        · exact h6
        · omega
theorem Nx_row {w h : Int} {r g : Nat → Bool} {s d : Nat} (hg : Nx w h r s d g) (h0 : r s = false ∨ 4 ≤ d) : Nx w h r (s + 1) 0 g := by
  intro t ht
  rw [hg t ht]
  constructor
  · rintro (h1 | ⟨s', d', h1, h2, h3, h4, h5⟩)
    · exact .inl h1
    · exact .inr ⟨s', d', h1, h2, h3, by omega, h5⟩
  · rintro (h1 | ⟨s', d', h1, h2, h3, h4, h5⟩)
    · exact .inl h1
    · refine .inr ⟨s', d', h1, h2, h3, ?_, h5⟩
      rcases h4 with h4 | h4
      · rcases Nat.lt_succ_iff_lt_or_eq.1 h4 with h6 | rfl
        · exact .inl h6
        · rcases h0 with h0 | h0
          · rw [h0] at h1; cases h1
          · exact .inr ⟨rfl, by omega⟩
      · omega
theorem Nx_done {w h p : Int} {r g : Nat → Bool} {k s : Nat} (hp : has w h p = true) (hr : Rk w h p k r) (hg : Nx w h r s 0 g) (hs : w * h ≤ (s : Int)) : Rk w h p (k + 1) g := by
  have hh := has_iff.1 hp
  have h64 : w * h ≤ 64 := Int.mul_le_mul (show w ≤ 8 by omega) (show h ≤ 8 by omega) (by omega) (by omega)
  intro t ht
  rw [hg t ht]
  constructor
  · rintro (h1 | ⟨s', d', h1, h2, h3, h4, h5⟩)
    · have := (hr t ht).1 h1
      omega
    · have h6 := (hr s' (by omega)).1 h1
      have h7 : (t : Int) < w * h := by rw [← h5]; exact mv_ge hh.1 (by omega)
      have h8 := dist_mv (q := p) hh.1 (by omega) h3 h5
      rw [dist_comm w t p, dist_comm w s' p] at h8
      omega
  · intro ⟨h1, h2⟩
    by_cases h3 : dist w p t ≤ k
    · exact .inl ((hr t ht).2 ⟨h1, h3⟩)
    · right
      have h4 : (t : Int) ≠ p := fun e => by rw [e, dist_zero.2 rfl] at h3; omega
      obtain ⟨d, hd, h5, h6, h7⟩ := dist_closer hh.1 (p := t) (q := p) (by omega) hh.2 h4
      have e : (((mv w h t d).toNat : Nat) : Int) = mv w h t d := by omega
      rw [dist_comm w _ p, dist_comm w _ p] at h7
      have h8 : ∃ d' : Nat, d' < 4 ∧ mv w h (mv w h t d) d' = t := by
        obtain ⟨a1, a2⟩ := (mv_iff hh.1 ⟨h5, h6⟩).1 rfl
        have hb := div_b hh.1 (p := t) (by omega)
        rcases dir_cases hd with rfl | rfl | rfl | rfl
        · exact ⟨2, by omega, (mv_iff hh.1 (by omega)).2 (by rw [a1, a2]; simp [dx, dy]; try omega)⟩
        · exact ⟨3, by omega, (mv_iff hh.1 (by omega)).2 (by rw [a1, a2]; simp [dx, dy]; try omega)⟩
        · exact ⟨0, by omega, (mv_iff hh.1 (by omega)).2 (by rw [a1, a2]; simp [dx, dy]; try omega)⟩
        · exact ⟨1, by omega, (mv_iff hh.1 (by omega)).2 (by rw [a1, a2]; simp [dx, dy]; try omega)⟩
      obtain ⟨d', hd', h9⟩ := h8
      exact ⟨(mv w h t d).toNat, d', (hr _ (by omega)).2 ⟨by omega, by rw [e]; omega⟩, by omega, hd', .inl (by omega), by rw [e]; exact h9⟩
theorem dist_le14 {w h p q : Int} (hp : has w h p = true) (hq : has w h q = true) : dist w p q ≤ 14 := by
  have h1 := has_iff.1 hp; have h2 := has_iff.1 hq
  have b1 := div_b h1.1 h1.2; have b2 := div_b h1.1 h2.2
  rw [dist_ab]
  rcases ab_cases (p % w - q % w) with a | a <;> rcases ab_cases (p / w - q / w) with b | b <;> omega
theorem wh64 {w h : Int} (hh : 2 ≤ w ∧ w ≤ 8 ∧ 2 ≤ h ∧ h ≤ 8) : w * h ≤ 64 := Int.mul_le_mul (show w ≤ 8 by omega) (show h ≤ 8 by omega) (by omega) (by omega)
theorem has_64 {w h p : Int} (hp : has w h p = true) : 0 ≤ p ∧ p < 64 ∧ p.toNat < 64 := by
  have h1 := has_iff.1 hp
  have h64 : w * h ≤ 64 := Int.mul_le_mul (show w ≤ 8 by omega) (show h ≤ 8 by omega) (by omega) (by omega)
  omega
theorem Rk_q {w h p q : Int} {k : Nat} {r : Nat → Bool} (hq : has w h q = true) (hr : Rk w h p k r) : r q.toNat = true ↔ dist w p q ≤ k := by
  have h1 := has_iff.1 hq
  have h2 := has_64 hq
  rw [hr _ h2.2.2, show ((q.toNat : Nat) : Int) = q by omega]
  constructor
  · exact (·.2)
  · intro h3; exact ⟨h1.2.2, h3⟩
end Fl
end Go.Proofs.Yteibcphdbkgcgaa
