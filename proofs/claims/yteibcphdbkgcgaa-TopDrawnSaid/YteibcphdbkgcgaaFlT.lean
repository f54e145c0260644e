/- The floor's text form: no program in sight. -/
import Derived.Test.YteibcphdbkgcgaaFlD
namespace Go.Proofs.Yteibcphdbkgcgaa
namespace Fl
set_option linter.unusedVariables false
/-- a cell's character. -/
def chr (c : UInt8) : UInt8 := if c = 0 then 35 else if c = 255 then 46 else 47 + c
theorem chr_nat (c : UInt8) : (chr c).toNat = if c.toNat = 0 then 35 else if c.toNat = 255 then 46 else (47 + c.toNat) % 256 := by
  have e0 : (c = 0) ↔ c.toNat = 0 := by rw [← UInt8.toNat_inj]; rfl
  have e1 : (c = 255) ↔ c.toNat = 255 := by rw [← UInt8.toNat_inj]; rfl
  unfold chr
  by_cases h0 : c.toNat = 0
  · rw [if_pos (e0.2 h0), if_pos h0]; rfl
  · rw [if_neg (fun h => h0 (e0.1 h)), if_neg h0]
    by_cases h1 : c.toNat = 255
    · rw [if_pos (e1.2 h1), if_pos h1]; rfl
    · rw [if_neg (fun h => h1 (e1.1 h)), if_neg h1, UInt8.toNat_add]; rfl
theorem chr_wall {c : UInt8} (h : ownerC c = -1) : ((chr c).toNat : Int) = 35 := by
  rw [chr_nat]; unfold ownerC at h; have := c.toNat_lt
  split at h
  · rw [if_pos (by assumption)]; rfl
  · split at h <;> omega
theorem chr_aisle {c : UInt8} (h : ownerC c = -2) : ((chr c).toNat : Int) = 46 := by
  rw [chr_nat]; unfold ownerC at h; have := c.toNat_lt
  split at h
  · omega
  · split at h
    · rw [if_neg (by assumption), if_pos (by assumption)]; rfl
    · omega
theorem chr_ten {c : UInt8} (hok : okc c = true) (h1 : ¬ ownerC c = -1) (h2 : ¬ ownerC c = -2) : ((chr c).toNat : Int) = 48 + ownerC c ∧ 0 ≤ ownerC c ∧ ownerC c ≤ 2 := by
  rw [chr_nat]
  simp only [okc, Bool.or_eq_true, decide_eq_true_eq] at hok
  unfold ownerC at *
  split at h1
  · omega
  · rename_i h0
    rw [if_neg h0] at h2
    rw [if_neg h0, if_neg h0]
    split at h2
    · omega
    · rename_i h3
      rw [if_neg h3, if_neg h3]
      omega
def draws (w : Int) (l : List UInt8) : Nat → List UInt8
  | 0 => []
  | k + 1 => if ((k : Int) + 1) % w = 0 then (draws w l k ++ [chr (l.getD k 0)]) ++ [10] else draws w l k ++ [chr (l.getD k 0)]
theorem draws_nl {w : Int} {l : List UInt8} {k : Nat} (h : ((k : Int) + 1) % w = 0) : draws w l (k + 1) = (draws w l k ++ [chr (l.getD k 0)]) ++ [10] := by
  show (if _ then _ else _) = _; rw [if_pos h]
theorem draws_no {w : Int} {l : List UInt8} {k : Nat} (h : ¬ ((k : Int) + 1) % w = 0) : draws w l (k + 1) = draws w l k ++ [chr (l.getD k 0)] := by
  show (if _ then _ else _) = _; rw [if_neg h]
theorem draws_len (w : Int) (l : List UInt8) : ∀ k, (draws w l k).length ≤ 2 * k := by
  intro k
  induction k with
  | zero => simp [draws]
  | succ k ih => unfold draws; split <;> simp only [List.length_append, List.length_cons, List.length_nil] <;> omega
def draw (w h : Int) (l : List UInt8) : List UInt8 × Int := if validF w h l then (draws w l l.length, 0) else ([], 50)
theorem nl_iff {w : Int} {k : Nat} (hw : 0 < w) : (k : Int) % w = w - 1 ↔ ((k : Int) + 1) % w = 0 := by
  have h1 := Int.emod_add_mul_ediv (k : Int) w
  have h2 := Int.emod_nonneg (k : Int) (show w ≠ 0 by omega)
  have h3 := Int.emod_lt_of_pos (k : Int) hw
  generalize (k : Int) % w = x at *
  generalize (k : Int) / w = y at *
  rw [← h1]
  constructor
  · intro e
    subst e
    rw [show w - 1 + w * y + 1 = w * (y + 1) by rw [Int.mul_add]; omega]
    exact Int.mul_emod_right _ _
  · intro e
    rw [show x + w * y + 1 = (x + 1) + w * y by omega, Int.add_mul_emod_self_left] at e
    by_cases h : x + 1 < w
    · rw [Int.emod_eq_of_lt (by omega) h] at e; omega
    · omega

/-! ### The floor of a string -/
def value (c : UInt8) : Option UInt8 := if c = 35 then some 0 else if c = 46 then some 255 else if 48 ≤ c.toNat ∧ c.toNat ≤ 50 then some (c - 47) else none
def vals : List UInt8 := [0, 1, 2, 3, 255]
@[simp] theorem vals_length : vals.length = 5 := rfl
theorem u8_eq {c : UInt8} {n : Nat} (h : c.toNat = n) : c = UInt8.ofNat n := by rw [← h]; simp
theorem val_found {c : UInt8} {k : Nat} (hk : k < 5) (h : ((chr (vals.getD k 0)).toNat : Int) = (c.toNat : Int)) : value c = some (vals.getD k 0) := by
  have h5 : k = 0 ∨ k = 1 ∨ k = 2 ∨ k = 3 ∨ k = 4 := by omega
  have hc : c = chr (vals.getD k 0) := by rw [← UInt8.toNat_inj]; omega
  rcases h5 with rfl | rfl | rfl | rfl | rfl <;> subst hc <;> decide
theorem val_none {c : UInt8} (h : ∀ j, j < 5 → ¬ ((chr (vals.getD j 0)).toNat : Int) = (c.toNat : Int)) : value c = none := by
  have a0 : c.toNat ≠ 35 := fun e => h 0 (by omega) (by rw [e]; rfl)
  have a1 : c.toNat ≠ 48 := fun e => h 1 (by omega) (by rw [e]; rfl)
  have a2 : c.toNat ≠ 49 := fun e => h 2 (by omega) (by rw [e]; rfl)
  have a3 : c.toNat ≠ 50 := fun e => h 3 (by omega) (by rw [e]; rfl)
  have a4 : c.toNat ≠ 46 := fun e => h 4 (by omega) (by rw [e]; rfl)
  unfold value
  rw [if_neg (fun e => a0 (by rw [e]; rfl)), if_neg (fun e => a4 (by rw [e]; rfl)), if_neg (by omega)]
theorem value_wall {c : UInt8} (h : (c.toNat : Int) = 35) : value c = some 0 := by rw [show c = 35 from u8_eq (n := 35) (by omega)]; rfl
theorem value_aisle {c : UInt8} (h : (c.toNat : Int) = 46) : value c = some 255 := by rw [show c = 46 from u8_eq (n := 46) (by omega)]; rfl
theorem value_ten {c : UInt8} (h : 48 ≤ (c.toNat : Int) ∧ (c.toNat : Int) ≤ 50) : value c = some (c - 47) := by
  unfold value
  rw [if_neg (fun e => by rw [e] at h; revert h; decide), if_neg (fun e => by rw [e] at h; revert h; decide), if_pos (by omega)]
theorem value_not {c : UInt8} (h1 : ¬ (c.toNat : Int) = 35) (h2 : ¬ (c.toNat : Int) = 46) (h3 : ¬ (48 ≤ (c.toNat : Int) ∧ (c.toNat : Int) ≤ 50)) : value c = none := by
  unfold value
  rw [if_neg (fun e => h1 (by rw [e]; rfl)), if_neg (fun e => h2 (by rw [e]; rfl)), if_neg (by omega)]
theorem sub47 {c : UInt8} (h : 47 ≤ (c.toNat : Int)) : ((c - 47).toNat : Int) = (c.toNat : Int) - 47 := by
  rw [UInt8.toNat_sub_of_le _ _ (by rw [UInt8.le_iff_toNat_le]; show 47 ≤ c.toNat; omega)]
  show (((c.toNat - 47 : Nat)) : Int) = _
  omega
def pstep (s : Int × Int × Int × List UInt8) (c : UInt8) : Option (Int × Int × Int × List UInt8) :=
  if (c.toNat : Int) = 10 then (if 0 < s.2.2.1 ∧ ¬ s.1 = s.2.1 then none else some (0, s.1, s.2.2.1 + 1, s.2.2.2))
  else match value c with
    | some v => some (s.1 + 1, s.2.1, s.2.2.1, s.2.2.2 ++ [v])
    | none => none
def scan (l : List UInt8) : Nat → Option (Int × Int × Int × List UInt8)
  | 0 => some (0, 0, 0, [])
  | k + 1 => match scan l k with
    | some s => pstep s (l.getD k 0)
    | none => none
theorem scan_succ {l : List UInt8} {k : Nat} {s : Int × Int × Int × List UInt8} (h : scan l k = some s) : scan l (k + 1) = pstep s (l.getD k 0) := by simp [scan, h]
theorem scan_none {l : List UInt8} {k : Nat} (h : scan l k = none) : ∀ j, scan l (k + j) = none := by
  intro j
  induction j with
  | zero => exact h
  | succ j ih => rw [show k + (j + 1) = (k + j) + 1 by omega]; simp [scan, ih]
def parse (l : List UInt8) : (Int × Int × List UInt8) × Int := match scan l l.length with
  | none => ((0, 0, []), 11)
  | some s => if 0 < s.1 then ((0, 0, []), 11) else if validF s.2.1 s.2.2.1 s.2.2.2 then ((s.2.1, s.2.2.1, s.2.2.2), 0) else ((0, 0, []), 50)
theorem parse_none {l : List UInt8} {k : Nat} {s : Int × Int × Int × List UInt8} (hk : k < l.length) (h : scan l k = some s) (hs : pstep s (l.getD k 0) = none) : parse l = ((0, 0, []), 11) := by
  have h1 : scan l (k + 1) = none := by rw [scan_succ h, hs]
  have h2 := scan_none h1 (l.length - (k + 1))
  rw [show k + 1 + (l.length - (k + 1)) = l.length by omega] at h2
  simp [parse, h2]
variable {n W H : Int} {cs : List UInt8} {l : List UInt8} {k : Nat}
theorem scan_val {v : UInt8} (h : scan l k = some (n, W, H, cs)) (hv : value (l.getD k 0) = some v) : scan l (k + 1) = some (n + 1, W, H, cs ++ [v]) := by
  rw [scan_succ h]
  unfold pstep
  rw [if_neg (fun e => by rw [show l.getD k 0 = 10 from u8_eq (n := 10) (by omega)] at hv; cases hv), hv]
theorem scan_nl (h : scan l k = some (n, W, H, cs)) (hc : ((l.getD k 0).toNat : Int) = 10) (hn : ¬ (0 < H ∧ ¬ n = W)) : scan l (k + 1) = some (0, n, H + 1, cs) := by
  rw [scan_succ h]
  unfold pstep
  rw [if_pos hc, if_neg hn]
theorem parse_nl (hk : k < l.length) (h : scan l k = some (n, W, H, cs)) (hc : ((l.getD k 0).toNat : Int) = 10) (hn : 0 < H ∧ ¬ n = W) : parse l = ((0, 0, []), 11) :=
  parse_none hk h (by unfold pstep; rw [if_pos hc, if_pos hn])
theorem parse_bad (hk : k < l.length) (h : scan l k = some (n, W, H, cs)) (hc : ¬ ((l.getD k 0).toNat : Int) = 10) (hv : value (l.getD k 0) = none) : parse l = ((0, 0, []), 11) :=
  parse_none hk h (by unfold pstep; rw [if_neg hc, hv])
theorem parse_end (hk : k = l.length) (h : scan l k = some (n, W, H, cs)) (hn : 0 < n) : parse l = ((0, 0, []), 11) := by
  subst hk; simp [parse, h, hn]
theorem parse_inv (hk : k = l.length) (h : scan l k = some (n, W, H, cs)) (hn : ¬ 0 < n) (hv : validF W H cs = false) : parse l = ((0, 0, []), 50) := by
  subst hk; simp [parse, h, hn, hv]
theorem parse_ok (hk : k = l.length) (h : scan l k = some (n, W, H, cs)) (hn : ¬ 0 < n) (hv : validF W H cs = true) : parse l = ((W, H, cs), 0) := by
  subst hk; simp [parse, h, hn, hv]
/-! ### The examples -/
def six : List UInt8 := [1, 255, 2, 0, 255, 1]
def four : List UInt8 := [1, 1, 0, 2]
@[simp] theorem six_length : six.length = 6 := rfl
@[simp] theorem four_length : four.length = 4 := rfl
end Fl
end Go.Proofs.Yteibcphdbkgcgaa
