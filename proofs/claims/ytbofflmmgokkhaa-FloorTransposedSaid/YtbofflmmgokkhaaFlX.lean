/- A floor whose rows and columns are exchanged: plain law, no program in sight. -/
import Derived.Test.YtbofflmmgokkhaaFlP
import Derived.Test.YtbofflmmgokkhaaFlR
namespace Go.Proofs.Ytbofflmmgokkhaa.Fl
set_option linter.unusedVariables false
set_option linter.unusedSimpArgs false

/-- where the k-th cell of the exchanged floor comes from. -/
def xp (a b : Int) (k : Int) : Int := k % b * a + k / b
def tr (a b : Int) (l : List UInt8) (k : Nat) : List UInt8 := (List.range k).map fun (i : Nat) => l.getD (xp a b (i : Int)).toNat 0
@[simp] theorem tr_len (a b : Int) (l : List UInt8) (k : Nat) : (tr a b l k).length = k := by simp [tr]
theorem tr_zero (a b : Int) (l : List UInt8) : tr a b l 0 = [] := rfl
theorem tr_succ (a b : Int) (l : List UInt8) (k : Nat) : tr a b l (k + 1) = tr a b l k ++ [l.getD (xp a b (k : Int)).toNat 0] := by
  unfold tr; rw [List.range_succ, List.map_append]; rfl
theorem tr_get {a b : Int} {l : List UInt8} {n k : Nat} (h : k < n) : (tr a b l n).getD k 0 = l.getD (xp a b (k : Int)).toNat 0 := by
  unfold tr
  rw [List.getD_eq_getElem?_getD, List.getElem?_map, List.getElem?_range h]
  rfl

theorem lin_b {w h x y : Int} (hx : 0 ≤ x ∧ x < w) (hy : 0 ≤ y ∧ y < h) : 0 ≤ y * w + x ∧ y * w + x < w * h := by
  have h1 : 0 ≤ y * w := Int.mul_nonneg hy.1 (by omega)
  have h2 : y * w ≤ (h - 1) * w := Int.mul_le_mul_of_nonneg_right (by omega) (by omega)
  rw [Int.sub_mul, Int.one_mul, Int.mul_comm h w] at h2
  omega
theorem lin_div {w x y : Int} (hx : 0 ≤ x ∧ x < w) : (y * w + x) / w = y := by
  rw [Int.add_comm, Int.add_mul_ediv_right _ _ (by omega), Int.ediv_eq_zero_of_lt hx.1 hx.2]; omega
theorem lin_mod {w x y : Int} (hx : 0 ≤ x ∧ x < w) : (y * w + x) % w = x := by
  rw [Int.add_comm, Int.add_mul_emod_self_right, Int.emod_eq_of_lt hx.1 hx.2]
theorem lin_eq {w : Int} (p : Int) : p / w * w + p % w = p := by rw [Int.mul_comm]; exact Int.mul_ediv_add_emod p w

section
variable {a b : Int} {l : List UInt8}
theorem xp_b (hv : 2 ≤ a ∧ a ≤ 8 ∧ 2 ≤ b ∧ b ≤ 8) {k : Int} (hk : 0 ≤ k ∧ k < a * b) : 0 ≤ xp a b k ∧ xp a b k < a * b := by
  have h := div_b (w := b) (h := a) (p := k) (by omega) (by rw [Int.mul_comm b a]; exact hk)
  exact lin_b (w := a) (h := b) (x := k / b) (y := k % b) ⟨h.1, h.2.1⟩ ⟨h.2.2.1, h.2.2.2⟩

theorem tr_valid (hv : validF a b l = true) : validF b a (tr a b l l.length) = true := by
  have h1 := validF_iff.1 hv
  have hh := valid_iff.1 h1.1.1
  refine validF_iff.2 ⟨⟨valid_iff.2 (by omega), by rw [tr_len, h1.1.2, Int.mul_comm]⟩, fun c hc => ?_⟩
  unfold tr at hc
  rw [List.mem_map] at hc
  obtain ⟨i, hi, rfl⟩ := hc
  rw [List.mem_range] at hi
  have hx := xp_b hh (k := (i : Int)) (by omega)
  have h2 := h1.1.2
  exact okc_at hv (j := (xp a b (i : Int)).toNat) (by omega)

theorem draws_get {w : Int} {l : List UInt8} (hw : 0 < w) {j : Nat} : ∀ k, j < k → (draws w l k).getD (j + ((j : Int) / w).toNat) 0 = chr (l.getD j 0) := by
  intro k
  induction k with
  | zero => intro h; omega
  | succ k ih =>
    intro h
    have hl := draws_length (l := l) hw k
    have hd : 0 ≤ (j : Int) / w := Int.ediv_nonneg (by omega) (by omega)
    have hle : (j : Int) / w ≤ (k : Int) / w := Int.ediv_le_ediv hw (by omega)
    by_cases hjk : j < k
    · have hpos : j + ((j : Int) / w).toNat < (draws w l k).length := by omega
      have ih' := ih hjk
      have app : ∀ r : List UInt8, (draws w l k ++ r).getD (j + ((j : Int) / w).toNat) 0 = (draws w l k).getD (j + ((j : Int) / w).toNat) 0 := fun r => by
        rw [List.getD_eq_getElem?_getD, List.getD_eq_getElem?_getD, List.getElem?_append_left hpos]
      unfold draws
      split
      · rw [List.append_assoc, app, ih']
      · rw [app, ih']
    · have hj : j = k := by omega
      subst hj
      have hpos : j + ((j : Int) / w).toNat = (draws w l j).length := by omega
      have app : ∀ r : List UInt8, (draws w l j ++ ([chr (l.getD j 0)] ++ r)).getD (j + ((j : Int) / w).toNat) 0 = chr (l.getD j 0) := fun r => by
        rw [hpos, List.getD_eq_getElem?_getD, List.getElem?_append_right (Nat.le_refl _), Nat.sub_self]
        rfl
      unfold draws
      split
      · rw [List.append_assoc]; exact app [10]
      · have := app []; rwa [List.append_nil] at this

theorem draw_at (hv : validF a b l = true) {i : Nat} (hi : i < l.length) : (draws a l l.length).getD ((i : Int) / a * (a + 1) + (i : Int) % a).toNat 0 = chr (l.getD i 0) := by
  have hh := valid_iff.1 (validF_iff.1 hv).1.1
  have h := draws_get (w := a) (l := l) (by omega) l.length hi
  have e : ((i : Int) / a * (a + 1) + (i : Int) % a).toNat = i + ((i : Int) / a).toNat := by
    have h1 := lin_eq (w := a) (i : Int)
    have h2 : 0 ≤ (i : Int) / a := Int.ediv_nonneg (by omega) (by omega)
    rw [Int.mul_add, Int.mul_one]
    omega
  rw [e]; exact h

theorem draw_in (hv : validF a b l = true) {i : Nat} (hi : i < l.length) : 0 ≤ (i : Int) / a * (a + 1) + (i : Int) % a ∧ (i : Int) / a * (a + 1) + (i : Int) % a < (draws a l l.length).length := by
  have hh := valid_iff.1 (validF_iff.1 hv).1.1
  have h2 := (validF_iff.1 hv).1.2
  have hb := div_b hh (p := (i : Int)) (by omega)
  rw [draws_all hv]
  exact lin_b (w := a + 1) (h := b) (x := (i : Int) % a) (y := (i : Int) / a) (by omega) (by omega)

theorem draws_sum (hv : validF a b l = true) : ((draws a l l.length).length : Int) = (l.length : Int) + b := by
  rw [draws_all hv, (validF_iff.1 hv).1.2, Int.add_mul, Int.one_mul]

/-- where cell i stands in the exchanged floor. -/
theorem swap_pos (hv : validF a b l = true) {i : Nat} (hi : i < l.length) :
    0 ≤ (i : Int) % a * b + (i : Int) / a ∧ (i : Int) % a * b + (i : Int) / a < (l.length : Int) ∧ xp a b ((i : Int) % a * b + (i : Int) / a) = (i : Int) ∧
    ((i : Int) % a * b + (i : Int) / a) / b = (i : Int) % a ∧ ((i : Int) % a * b + (i : Int) / a) % b = (i : Int) / a := by
  have hh := valid_iff.1 (validF_iff.1 hv).1.1
  have h2 := (validF_iff.1 hv).1.2
  have hb := div_b hh (p := (i : Int)) (by omega)
  have h3 := lin_b (w := b) (h := a) (x := (i : Int) / a) (y := (i : Int) % a) (by omega) (by omega)
  have h4 := lin_div (w := b) (x := (i : Int) / a) (y := (i : Int) % a) (by omega)
  have h5 := lin_mod (w := b) (x := (i : Int) / a) (y := (i : Int) % a) (by omega)
  refine ⟨h3.1, by rw [h2, Int.mul_comm a b]; exact h3.2, ?_, h4, h5⟩
  unfold xp
  rw [h4, h5]
  exact lin_eq _

theorem tr_at (hv : validF a b l = true) {i : Nat} (hi : i < l.length) : (tr a b l l.length).getD ((i : Int) % a * b + (i : Int) / a).toNat 0 = l.getD i 0 := by
  have h := swap_pos hv hi
  rw [tr_get (by omega), Int.toNat_of_nonneg h.1, h.2.2.1, Int.toNat_natCast]

theorem locate_cell (hv : validF a b l = true) {i : Nat} (hi : i < l.length) : locate a b (i : Int) = ((i : Int) % a, (i : Int) / a, 0) := by
  have h2 := (validF_iff.1 hv).1.2
  exact locate_ok (has_iff.2 ⟨valid_iff.1 (validF_iff.1 hv).1.1, by omega⟩)
theorem place_cell (hv : validF a b l = true) {i : Nat} (hi : i < l.length) : place b a ((i : Int) / a) ((i : Int) % a) = ((i : Int) % a * b + (i : Int) / a, 0) := by
  have hh := valid_iff.1 (validF_iff.1 hv).1.1
  have h2 := (validF_iff.1 hv).1.2
  have hb := div_b hh (p := (i : Int)) (by omega)
  have hv2 : valid b a = true := valid_iff.2 (by omega)
  simp [place, hv2, inB_iff.2 (show 0 ≤ (i : Int) / a ∧ (i : Int) / a < b by omega), inB_iff.2 (show 0 ≤ (i : Int) % a ∧ (i : Int) % a < a by omega)]
theorem owner_swap (hv : validF a b l = true) {i : Nat} (hi : i < l.length) : owner b a (tr a b l l.length) ((i : Int) % a * b + (i : Int) / a) = (ownerC (l.getD i 0), 0) := by
  have h := swap_pos hv hi
  have h2 := owner_cell (tr_valid hv) (k := ((i : Int) % a * b + (i : Int) / a).toNat) (by rw [tr_len]; omega)
  rw [Int.toNat_of_nonneg h.1] at h2
  rw [h2, tr_at hv hi]
theorem draw_swap (hv : validF a b l = true) {i : Nat} (hi : i < l.length) : (draws b (tr a b l l.length) l.length).getD ((i : Int) % a * (b + 1) + (i : Int) / a).toNat 0 = chr (l.getD i 0) := by
  have h := swap_pos hv hi
  have h2 := draw_at (tr_valid hv) (i := ((i : Int) % a * b + (i : Int) / a).toNat) (by rw [tr_len]; omega)
  rw [Int.toNat_of_nonneg h.1, h.2.2.2.1, h.2.2.2.2, tr_at hv hi, tr_len] at h2
  exact h2
theorem draw_swap_in (hv : validF a b l = true) {i : Nat} (hi : i < l.length) : 0 ≤ (i : Int) % a * (b + 1) + (i : Int) / a ∧ (i : Int) % a * (b + 1) + (i : Int) / a < (draws b (tr a b l l.length) l.length).length := by
  have h := swap_pos hv hi
  have h2 := draw_in (tr_valid hv) (i := ((i : Int) % a * b + (i : Int) / a).toNat) (by rw [tr_len]; omega)
  rw [Int.toNat_of_nonneg h.1, h.2.2.2.1, h.2.2.2.2, tr_len] at h2
  exact h2
theorem has_swap {p : Int} (hp : has a b p = true) : has b a (p % a * b + p / a) = true := by
  have h := has_iff.1 hp
  have hb := div_b h.1 h.2
  have h3 := lin_b (w := b) (h := a) (x := p / a) (y := p % a) (by omega) (by omega)
  exact has_iff.2 ⟨by omega, h3⟩
theorem dist_swap {p q : Int} (hp : has a b p = true) (hq : has a b q = true) : dist b (p % a * b + p / a) (q % a * b + q / a) = dist a p q := by
  have h := has_iff.1 hp
  have hb := div_b h.1 h.2
  have h' := has_iff.1 hq
  have hb' := div_b h'.1 h'.2
  unfold dist
  rw [lin_div (by omega), lin_mod (by omega), lin_div (by omega), lin_mod (by omega)]
  omega
theorem distance_swap {p q : Int} (hp : has a b p = true) (hq : has a b q = true) : distance b a (p % a * b + p / a) (q % a * b + q / a) = (dist a p q, 0) := by
  rw [distance_ok (has_swap hp) (has_swap hq), dist_swap hp hq]
end
end Go.Proofs.Ytbofflmmgokkhaa.Fl
