/- Plain functions and lemmas on the floor: no program in sight. -/
namespace Go.Proofs.Yteibcphdbkgcgaa

namespace Fl
/-- sides of a valid floor; a number from 0 to m - 1; a place. -/
def valid (w h : Int) : Bool := decide (2 ≤ w) && decide (w ≤ 8) && decide (2 ≤ h) && decide (h ≤ 8)
def inB (n m : Int) : Bool := decide (0 ≤ n) && decide (n < m)
def has (w h p : Int) : Bool := valid w h && inB p (w * h)
theorem valid_iff {w h : Int} : valid w h = true ↔ 2 ≤ w ∧ w ≤ 8 ∧ 2 ≤ h ∧ h ≤ 8 := by simp [valid, and_assoc]
theorem inB_iff {n m : Int} : inB n m = true ↔ 0 ≤ n ∧ n < m := by simp [inB]
theorem has_iff {w h p : Int} : has w h p = true ↔ (2 ≤ w ∧ w ≤ 8 ∧ 2 ≤ h ∧ h ≤ 8) ∧ 0 ≤ p ∧ p < w * h := by simp [has, valid_iff, inB_iff]
/-- the place with some coordinates; the coordinates behind a step; the results of the functions, with the error. -/
def at_ (w h x y : Int) : Int × Bool := if valid w h && inB x w && inB y h then (y * w + x, true) else (0, false)
def dx (d : Int) : Int := if d = 1 then 1 else if d = 3 then -1 else 0
def dy (d : Int) : Int := if d = 0 then -1 else if d = 2 then 1 else 0
def moved (w h p d : Int) : Int × Bool := at_ w h (p % w + dx d) (p / w + dy d)
def dist (w p q : Int) : Int := (if p % w - q % w < -(p % w - q % w) then -(p % w - q % w) else p % w - q % w) + (if p / w - q / w < -(p / w - q / w) then -(p / w - q / w) else p / w - q / w)
def cells (w h : Int) : Int × Int := if valid w h then (w * h, 0) else (0, 2)
def locate (w h p : Int) : Int × Int × Int := if has w h p then (p % w, p / w, 0) else (0, 0, 2)
def place (w h x y : Int) : Int × Int := if valid w h && inB x w && inB y h then (y * w + x, 0) else (0, 2)
def step (w h p d : Int) : Int × Int := if has w h p && inB d 4 then (if (moved w h p d).2 then ((moved w h p d).1, 0) else (0, 6)) else (0, 2)
def distance (w h p q : Int) : Int × Int := if has w h p && has w h q then (dist w p q, 0) else (0, 2)
def adjacent (w h p q : Int) : Bool × Int := (decide ((distance w h p q).1 = 1), (distance w h p q).2)
theorem mulb {a b : Int} (ha : 0 ≤ a ∧ a ≤ 100000) (hb : 0 ≤ b ∧ b ≤ 100000) : 0 ≤ a * b ∧ a * b ≤ 10000000000 :=
  ⟨Int.mul_nonneg ha.1 hb.1, by have := Int.mul_le_mul ha.2 hb.2 hb.1 (by omega); omega⟩
theorem div_lt {w h p : Int} (hw : 0 < w) (hp : p < w * h) : p / w < h := Int.ediv_lt_of_lt_mul hw (by rw [Int.mul_comm] at hp; exact hp)
theorem div_b {w h p : Int} (hw : 2 ≤ w ∧ w ≤ 8 ∧ 2 ≤ h ∧ h ≤ 8) (hp : 0 ≤ p ∧ p < w * h) : 0 ≤ p / w ∧ p / w < h ∧ 0 ≤ p % w ∧ p % w < w :=
  ⟨Int.ediv_nonneg hp.1 (by omega), div_lt (by omega) hp.2, Int.emod_nonneg _ (by omega), Int.emod_lt_of_pos _ (by omega)⟩
/-- what the specification's step is: a place or -1. -/
def mv (w h p d : Int) : Int := if (moved w h p d).2 then (moved w h p d).1 else -1
theorem mv_eq {w h p d : Int} (hw : 2 ≤ w ∧ w ≤ 8 ∧ 2 ≤ h ∧ h ≤ 8) (hp : 0 ≤ p ∧ p < w * h) (hd : 0 ≤ d ∧ d < 4) :
    mv w h p d = if d = 0 ∧ 0 < p / w then p - w else if d = 1 ∧ p % w < w - 1 then p + 1 else if d = 2 ∧ p / w < h - 1 then p + w else if d = 3 ∧ 0 < p % w then p - 1 else -1 := by
  have hb := div_b hw hp
  have hv := valid_iff.2 hw
  have he := Int.emod_add_mul_ediv p w
  unfold mv moved at_
  generalize p % w = x at *
  generalize p / w = y at *
  subst he
  have h4 : d = 0 ∨ d = 1 ∨ d = 2 ∨ d = 3 := by omega
  rcases h4 with rfl | rfl | rfl | rfl <;> simp [dx, dy, hv, inB]
  · by_cases h0 : 0 < y
    · have e1 : (y + -1) * w = w * y - w := by rw [Int.add_mul, Int.mul_comm]; omega
      simp [h0, hb, e1, show 0 ≤ y + -1 by omega, show y + -1 < h by omega]; omega
    · have : ¬ 0 ≤ y + -1 := by omega
      simp [h0, this]
  · by_cases h0 : x < w - 1
    · have e1 : y * w = w * y := Int.mul_comm _ _
      simp [h0, hb, e1, show 0 ≤ x + 1 by omega, show x + 1 < w by omega]; omega
    · have : ¬ x + 1 < w := by omega
      simp [h0, this]
  · by_cases h0 : y < h - 1
    · have e1 : (y + 1) * w = w * y + w := by rw [Int.add_mul, Int.mul_comm]; omega
      simp [h0, hb, e1, show 0 ≤ y + 1 by omega, show y + 1 < h by omega]; omega
    · have : ¬ y + 1 < h := by omega
      simp [h0, this]
  · by_cases h0 : 0 < x
    · have e1 : y * w = w * y := Int.mul_comm _ _
      simp [h0, hb, e1, show 0 ≤ x + -1 by omega, show x + -1 < w by omega]; omega
    · have : ¬ 0 ≤ x + -1 := by omega
      simp [h0, this]
theorem place_eq (w h x y : Int) : place w h x y = if (at_ w h x y).2 then ((at_ w h x y).1, 0) else (0, 2) := by
  unfold place at_; split <;> simp
theorem moved_nn {w h p d : Int} (h2 : (moved w h p d).2 = true) : 0 ≤ (moved w h p d).1 := by
  unfold moved at_ at *
  split at h2
  · rename_i hc
    simp [valid, inB] at hc
    rw [if_pos (by simp [valid, inB]; omega)]
    have := Int.mul_nonneg (show 0 ≤ p / w + dy d by omega) (show 0 ≤ w by omega)
    show 0 ≤ (p / w + dy d) * w + (p % w + dx d)
    omega
  · cases h2
theorem step_bad {w h p d : Int} (hd : d < 0 ∨ 4 ≤ d) : step w h p d = (0, 2) := by
  unfold step; rw [if_neg]; simp [inB]; omega
theorem step_bad2 {w h p d : Int} (hh : has w h p = false) : step w h p d = (0, 2) := by
  unfold step; simp [hh]
theorem step_mv {w h p d : Int} (hh : has w h p = true) (hd : 0 ≤ d ∧ d < 4) : step w h p d = if mv w h p d < 0 then (0, 6) else (mv w h p d, 0) := by
  unfold step
  rw [if_pos (by simp [hh, inB]; omega)]
  unfold mv
  cases h2 : (moved w h p d).2 with
  | true => have := moved_nn h2; simp; omega
  | false => simp
/-- the place with some coordinates is the one that a search finds. -/
theorem place_found {w h x y p : Int} (hw : 2 ≤ w ∧ w ≤ 8 ∧ 2 ≤ h ∧ h ≤ 8) (hp : 0 ≤ p ∧ p < w * h) (hx : p % w = x) (hy : p / w = y) : place w h x y = (p, 0) := by
  have hb := div_b hw hp
  have he := Int.emod_add_mul_ediv p w
  subst hx hy
  have : p / w * w + p % w = p := by rw [Int.mul_comm]; omega
  simp [place, valid_iff.2 hw, inB, hb, this]
theorem place_none {w h x y : Int} (hw : 2 ≤ w ∧ w ≤ 8 ∧ 2 ≤ h ∧ h ≤ 8) (hn : ∀ j : Nat, (j : Int) < w * h → ¬ ((j : Int) % w = x ∧ (j : Int) / w = y)) : place w h x y = (0, 2) := by
  unfold place
  split
  · rename_i hc
    simp [inB] at hc
    exfalso
    have h0 : 0 ≤ y * w := Int.mul_nonneg (by omega) (by omega)
    have h1 : y * w + x < w * h := by
      have : y * w ≤ (h - 1) * w := Int.mul_le_mul_of_nonneg_right (by omega) (by omega)
      rw [Int.sub_mul, Int.mul_comm h w] at this
      omega
    have hcast : ((y * w + x).toNat : Int) = y * w + x := Int.toNat_of_nonneg (by omega)
    refine hn (y * w + x).toNat (by rw [hcast]; exact h1) ?_
    rw [hcast]
    constructor
    · rw [Int.add_comm, Int.add_mul_emod_self_right]; exact Int.emod_eq_of_lt (by omega) (by omega)
    · rw [Int.add_comm, Int.add_mul_ediv_right _ _ (by omega), Int.ediv_eq_zero_of_lt (by omega) (by omega)]; omega
  · rfl

/-! ### Slice tables -/
def validS (l : List UInt8) : Bool := decide (1 ≤ l.length) && decide (l.length ≤ 16) && l.all fun c => decide (c.toNat ≤ 3)
def checkS (l : List UInt8) : Int := if validS l then 0 else 60
theorem validS_iff {l : List UInt8} : validS l = true ↔ (1 ≤ l.length ∧ l.length ≤ 16) ∧ ∀ c ∈ l, c.toNat ≤ 3 := by simp [validS]
theorem validS_bad {l : List UInt8} {k : Nat} (hk : k < l.length) (h : 3 < (l.getD k 0).toNat) : validS l = false := by
  cases hv : validS l with
  | false => rfl
  | true =>
    have := (validS_iff.1 hv).2 (l.getD k 0) (by simp [List.getD, hk])
    omega
theorem validS_len {l : List UInt8} (h : l.length < 1 ∨ 16 < l.length) : validS l = false := by
  cases hv : validS l with
  | false => rfl
  | true => have := (validS_iff.1 hv).1; omega
theorem validS_good {l : List UInt8} (hl : 1 ≤ l.length ∧ l.length ≤ 16) (h : ∀ j, j < l.length → (l.getD j 0).toNat ≤ 3) : validS l = true := by
  refine validS_iff.2 ⟨hl, fun c hc => ?_⟩
  obtain ⟨j, hj, rfl⟩ := List.mem_iff_getElem.1 hc
  have := h j hj
  simpa [List.getD, hj] using this
/-- the greatest. -/
def mx (l : List UInt8) : Int := l.foldl (fun m c => if m < (c.toNat : Int) then (c.toNat : Int) else m) 0
theorem mx_take {l : List UInt8} {k : Nat} (hk : k < l.length) : mx (l.take (k + 1)) = if mx (l.take k) < ((l.getD k 0).toNat : Int) then ((l.getD k 0).toNat : Int) else mx (l.take k) := by
  unfold mx
  rw [List.take_succ_eq_append_getElem hk, List.foldl_append]
  simp [List.getD, hk]
theorem mx_one {l : List UInt8} (hk : 0 < l.length) : mx (l.take 1) = ((l.getD 0 0).toNat : Int) := by
  have := mx_take hk
  simp [mx] at this ⊢
  rw [this]; split <;> omega
theorem mx_le_aux (l : List UInt8) (m b : Int) : l.foldl (fun m c => if m < (c.toNat : Int) then (c.toNat : Int) else m) m ≤ b ↔ m ≤ b ∧ ∀ c ∈ l, (c.toNat : Int) ≤ b := by
  induction l generalizing m with
  | nil => simp
  | cons c r ih =>
    rw [List.foldl_cons, ih]
    simp only [List.mem_cons, forall_eq_or_imp]
    split <;> constructor <;> intro h <;> refine ⟨by omega, ?_⟩
    · exact ⟨by omega, h.2⟩
    · exact h.2.2
    · exact ⟨by omega, h.2⟩
    · exact h.2.2
theorem mx_le3 {l : List UInt8} : mx l ≤ 3 ↔ ∀ c ∈ l, c.toNat ≤ 3 := by
  unfold mx; rw [mx_le_aux]
  constructor
  · intro h c hc; have := h.2 c hc; omega
  · intro h; exact ⟨by omega, fun c hc => by have := h c hc; omega⟩
/-- the n-th entry from that of a tick on; to whom it belongs (-1: nobody). -/
def ent (l : List UInt8) (tick : Int) (n : Nat) : Nat := ((tick % (l.length : Int)).toNat + n) % l.length
def sown (l : List UInt8) (tick : Int) (n : Nat) : Int := ((l.getD (ent l tick n) 0).toNat : Int) - 1
def sliceOwner (l : List UInt8) (tick : Int) : Int × Int := if validS l then (sown l tick 0, 0) else (0, 60)
/-- how many entries in succession belong to a tenant, or do not. -/
def runN (l : List UInt8) (tick t : Int) (b : Bool) : Nat → Nat → Nat
  | 0, n => n
  | f + 1, n => if (decide (sown l tick n = t)) = b then runN l tick t b f (n + 1) else n
def run (l : List UInt8) (tick t : Int) (b : Bool) : Nat := runN l tick t b l.length 0
theorem runN_stop {l : List UInt8} {tick t : Int} {b : Bool} {f n : Nat} (h : ¬ (decide (sown l tick n = t)) = b) : runN l tick t b f n = n := by
  cases f <;> simp [runN, h]
theorem run_at {l : List UInt8} {tick t : Int} {b : Bool} : ∀ {n : Nat}, n ≤ l.length → (∀ j, j < n → (decide (sown l tick j = t)) = b) → run l tick t b = runN l tick t b (l.length - n) n := by
  intro n
  induction n with
  | zero => intro _ _; rfl
  | succ n ih =>
    intro hn h
    rw [ih (by omega) (fun j hj => h j (by omega)), show l.length - n = (l.length - (n + 1)) + 1 by omega, runN, if_pos (h n (by omega))]
theorem run_full {l : List UInt8} {tick t : Int} {b : Bool} (h : ∀ j, j < l.length → (decide (sown l tick j = t)) = b) : run l tick t b = l.length := by
  rw [run_at (Nat.le_refl _) h, Nat.sub_self]; rfl
theorem run_end {l : List UInt8} {tick t : Int} {b : Bool} {n : Nat} (hn : n ≤ l.length) (h : ∀ j, j < n → (decide (sown l tick j = t)) = b) (hs : ¬ (decide (sown l tick n = t)) = b) : run l tick t b = n := by
  rw [run_at hn h, runN_stop hs]
theorem runN_le (l : List UInt8) (tick t : Int) (b : Bool) : ∀ f n, runN l tick t b f n ≤ n + f := by
  intro f
  induction f with
  | zero => intro n; simp [runN]
  | succ f ih => intro n; unfold runN; split; have := ih (n + 1); omega; omega
theorem run_le (l : List UInt8) (tick t : Int) (b : Bool) : run l tick t b ≤ l.length := by have := runN_le l tick t b l.length 0; unfold run; omega
theorem ent_lt {l : List UInt8} {tick : Int} {n : Nat} (h : 1 ≤ l.length) : ent l tick n < l.length := Nat.mod_lt _ (by omega)
theorem mod_b {l : List UInt8} (tick : Int) (h : 1 ≤ l.length) : 0 ≤ tick % (l.length : Int) ∧ tick % (l.length : Int) < l.length :=
  ⟨Int.emod_nonneg _ (by omega), Int.emod_lt_of_pos _ (by omega)⟩
theorem ent_cast {l : List UInt8} {tick : Int} (h : 1 ≤ l.length) (n : Nat) : ((ent l tick n : Nat) : Int) = (tick % (l.length : Int) + (n : Int)) % (l.length : Int) := by
  have := mod_b tick h
  unfold ent
  rw [Int.natCast_emod, Int.natCast_add, Int.toNat_of_nonneg this.1]
theorem ent_toNat {l : List UInt8} {tick : Int} (h : 1 ≤ l.length) (n : Nat) : ((tick % (l.length : Int) + (n : Int)) % (l.length : Int)).toNat = ent l tick n := by
  rw [← ent_cast h]; simp
theorem ent_zero {l : List UInt8} {tick : Int} (h : 1 ≤ l.length) : (tick % (l.length : Int)).toNat = ent l tick 0 := by
  have := mod_b tick h
  unfold ent
  rw [Nat.add_zero, Nat.mod_eq_of_lt (by omega)]
theorem sown_iff {l : List UInt8} {tick t : Int} {n : Nat} : (((l.getD (ent l tick n) 0).toNat : Int) = t + 1) ↔ sown l tick n = t := by unfold sown; omega
def sliceLeft (l : List UInt8) (tick t : Int) : Int × Int := if validS l then (if inB t 3 then ((run l tick t true : Nat), 0) else (0, 2)) else (0, 60)
def sliceWait (l : List UInt8) (tick t : Int) : Int × Int :=
  if validS l then (if inB t 3 then (if run l tick t false = l.length then (0, 6) else ((run l tick t false : Nat), 0)) else (0, 2)) else (0, 60)
theorem left_full {l : List UInt8} {tick t : Int} (hs : validS l = true) (hi : inB t 3 = true) (h : ∀ j, j < l.length → (decide (sown l tick j = t)) = true) : sliceLeft l tick t = (((l.length : Nat) : Int), 0) := by
  unfold sliceLeft; rw [if_pos hs, if_pos hi, run_full h]
theorem left_end {l : List UInt8} {tick t : Int} {n : Nat} (hs : validS l = true) (hi : inB t 3 = true) (hn : n ≤ l.length) (h : ∀ j, j < n → (decide (sown l tick j = t)) = true) (hx : ¬ sown l tick n = t) : sliceLeft l tick t = (((n : Nat) : Int), 0) := by
  unfold sliceLeft; rw [if_pos hs, if_pos hi, run_end hn h (by simpa using hx)]
theorem wait_full {l : List UInt8} {tick t : Int} (hs : validS l = true) (hi : inB t 3 = true) (h : ∀ j, j < l.length → (decide (sown l tick j = t)) = false) : sliceWait l tick t = (0, 6) := by
  unfold sliceWait; rw [if_pos hs, if_pos hi, run_full h, if_pos rfl]
theorem wait_end {l : List UInt8} {tick t : Int} {n : Nat} (hs : validS l = true) (hi : inB t 3 = true) (hn : n < l.length) (h : ∀ j, j < n → (decide (sown l tick j = t)) = false) (hx : sown l tick n = t) : sliceWait l tick t = (((n : Nat) : Int), 0) := by
  unfold sliceWait; rw [if_pos hs, if_pos hi, run_end (by omega) h (by simpa using hx), if_neg (by omega)]
def asked (l : List UInt8) (t : Int) : Int := if validS l then (if inB t 3 then 0 else 2) else 60

/-! ### Cells -/
def okc (c : UInt8) : Bool := decide (c.toNat ≤ 3) || decide (c.toNat = 255)
def validF (w h : Int) (l : List UInt8) : Bool := valid w h && decide ((l.length : Int) = w * h) && l.all okc
def checkF (w h : Int) (l : List UInt8) : Int := if validF w h l then 0 else 50
theorem validF_iff {w h : Int} {l : List UInt8} : validF w h l = true ↔ (valid w h = true ∧ (l.length : Int) = w * h) ∧ ∀ c ∈ l, okc c = true := by simp [validF]
theorem checkF_zero {w h : Int} {l : List UInt8} : checkF w h l = 0 ↔ validF w h l = true := by
  unfold checkF; split <;> simp_all
theorem validF_len {w h : Int} {l : List UInt8} (hv : validF w h l = true) : l.length ≤ 64 := by
  obtain ⟨⟨h1, h2⟩, _⟩ := validF_iff.1 hv
  have := valid_iff.1 h1
  have := Int.mul_le_mul (show w ≤ 8 by omega) (show h ≤ 8 by omega) (by omega) (by omega)
  omega
/-- the first index at which a test holds, or -1. -/
def idx (q : UInt8 → Bool) (l : List UInt8) : Int := match l.findIdx? q with | some i => (i : Int) | none => -1
theorem idx_none {q : UInt8 → Bool} {l : List UInt8} (h : ∀ j, j < l.length → q (l.getD j 0) = false) : idx q l = -1 := by
  unfold idx
  have : l.findIdx? q = none := by
    rw [List.findIdx?_eq_none_iff]
    intro c hc
    obtain ⟨j, hj, rfl⟩ := List.mem_iff_getElem.1 hc
    have := h j hj
    simpa [List.getD, hj] using this
  rw [this]
theorem idx_some {q : UInt8 → Bool} {l : List UInt8} {k : Nat} (hk : k < l.length) (h : ∀ j, j < k → q (l.getD j 0) = false) (hq : q (l.getD k 0) = true) : idx q l = (k : Int) := by
  unfold idx
  have : l.findIdx? q = some k := by
    rw [List.findIdx?_eq_some_iff_getElem]
    refine ⟨hk, by simpa [List.getD, hk] using hq, fun j hj => ?_⟩
    have := h j hj
    simp only [List.getD, List.getElem?_eq_getElem (show j < l.length by omega), Option.getD_some] at this
    simpa using this
  rw [this]
theorem idx_any (q : UInt8 → Bool) (l : List UInt8) : decide (0 ≤ idx q l) = l.any q := by
  unfold idx
  cases h : l.findIdx? q with
  | none =>
    rw [List.findIdx?_eq_none_iff] at h
    have : l.any q = false := by rw [List.any_eq_false]; intro c hc; simp [h c hc]
    simp [this]
  | some k =>
    rw [List.findIdx?_eq_some_iff_getElem] at h
    obtain ⟨hk, hq, _⟩ := h
    have : l.any q = true := List.any_eq_true.2 ⟨_, List.getElem_mem hk, hq⟩
    simp [this]
theorem any_odd (l : List UInt8) : l.any (fun c => !okc c) = !l.all okc := by
  induction l with
  | nil => rfl
  | cons c r ih => simp [ih, Bool.not_and]
theorem validF_bad {w h : Int} {l : List UInt8} {k : Nat} (hk : k < l.length) (hc : okc (l.getD k 0) = false) : validF w h l = false := by
  cases hv : validF w h l with
  | false => rfl
  | true =>
    have := (validF_iff.1 hv).2 (l.getD k 0) (by simp [List.getD, hk])
    rw [this] at hc; cases hc
theorem validF_good {w h : Int} {l : List UInt8} (hv : valid w h = true) (hl : (l.length : Int) = w * h) (hc : ∀ j, j < l.length → okc (l.getD j 0) = true) : validF w h l = true := by
  refine validF_iff.2 ⟨⟨hv, hl⟩, fun c hc' => ?_⟩
  obtain ⟨j, hj, rfl⟩ := List.mem_iff_getElem.1 hc'
  have := hc j hj
  simpa [List.getD, hj] using this
/-- to whom a cell belongs; the places of an owner. -/
def ownerC (c : UInt8) : Int := if c.toNat = 0 then -1 else if c.toNat = 255 then -2 else (c.toNat : Int) - 1
def places (q : UInt8 → Bool) (l : List UInt8) (k : Nat) : List Int := ((List.range k).filter fun p => q (l.getD p 0)).map fun (p : Nat) => (p : Int)
theorem places_zero (q : UInt8 → Bool) (l : List UInt8) : places q l 0 = [] := rfl
theorem places_yes {q : UInt8 → Bool} {l : List UInt8} {k : Nat} (h : q (l.getD k 0) = true) : places q l (k + 1) = places q l k ++ [(k : Int)] := by
  unfold places; rw [List.range_succ, List.filter_append, List.map_append]; simp only [List.filter_cons, h, if_true, List.filter_nil, List.map_cons, List.map_nil]
theorem places_no {q : UInt8 → Bool} {l : List UInt8} {k : Nat} (h : q (l.getD k 0) = false) : places q l (k + 1) = places q l k := by
  unfold places; rw [List.range_succ, List.filter_append, List.map_append]; simp only [List.filter_cons, h, Bool.false_eq_true, if_false, List.filter_nil, List.map_nil, List.append_nil]
theorem places_len (q : UInt8 → Bool) (l : List UInt8) (k : Nat) : (places q l k).length ≤ k := by
  unfold places; rw [List.length_map]; have := List.length_filter_le (fun p => q (l.getD p 0)) (List.range k); simpa using this
theorem places_congr {q q' : UInt8 → Bool} {l : List UInt8} {k : Nat} (h : ∀ j, j < k → q (l.getD j 0) = q' (l.getD j 0)) : places q l k = places q' l k := by
  unfold places; congr 1; apply List.filter_congr; intro x hx; exact h x (List.mem_range.1 hx)
def owner (w h : Int) (l : List UInt8) (p : Int) : Int × Int := if validF w h l then (if has w h p then (ownerC (l.getD p.toNat 0), 0) else (0, 2)) else (0, 50)
def priv (w h : Int) (l : List UInt8) (t : Int) : List Int × Int := if validF w h l then (if inB t 3 then (places (fun c => decide (ownerC c = t)) l l.length, 0) else ([], 2)) else ([], 50)
def aisles (w h : Int) (l : List UInt8) : List Int × Int := if validF w h l then (places (fun c => decide (ownerC c = -2)) l l.length, 0) else ([], 50)
theorem priv_len (w h : Int) (l : List UInt8) (t : Int) : (priv w h l t).1.length ≤ l.length := by
  unfold priv; split
  · split
    · dsimp only
      exact places_len _ _ _
    · exact Nat.zero_le _
  · exact Nat.zero_le _
theorem aisles_len (w h : Int) (l : List UInt8) : (aisles w h l).1.length ≤ l.length := by
  unfold aisles; split
  · dsimp only
    exact places_len _ _ _
  · exact Nat.zero_le _
/-- the specification's words. -/
def own (t : Int) (c : UInt8) : Bool := decide (0 ≤ t) && decide (t < 3) && decide ((c.toNat : Int) = t + 1)
theorem own_iff {t : Int} {c : UInt8} (ht : 0 ≤ t ∧ t < 3) (hc : okc c = true) : own t c = decide (ownerC c = t) := by
  unfold own ownerC okc at *
  simp at hc
  simp [ht]
  split
  · omega
  · split <;> omega
theorem aisle_iff {c : UInt8} : decide ((c.toNat : Int) = 255) = decide (ownerC c = -2) := by
  unfold ownerC
  have := c.toNat_lt
  simp
  split
  · omega
  · split <;> omega
theorem okc_i (c : UInt8) : okc c = (decide ((c.toNat : Int) ≤ 3) || decide ((c.toNat : Int) = 255)) := by
  unfold okc
  rw [Bool.eq_iff_iff]
  simp
  omega
theorem owner_own {w h : Int} {l : List UInt8} {p : Int} {k : Nat} (hv : validF w h l = true) (hp : has w h p = true) (hok : okc (l.getD p.toNat 0) = true) (hk : k < 3) (h1 : own k (l.getD p.toNat 0) = true) : owner w h l p = ((k : Int), 0) := by
  rw [own_iff (by omega) hok] at h1
  simp only [decide_eq_true_eq] at h1
  simp only [owner, hv, hp, if_true, h1]
theorem owner_none {w h : Int} {l : List UInt8} {p : Int} (hv : validF w h l = true) (hp : has w h p = true) (hok : okc (l.getD p.toNat 0) = true) (h1 : ∀ j : Nat, j < 3 → own j (l.getD p.toNat 0) = false) (h2 : ¬ ownerC (l.getD p.toNat 0) = -2) : owner w h l p = (-1, 0) := by
  have e : ownerC (l.getD p.toNat 0) = -1 := by
    have a0 := h1 0 (by omega)
    have a1 := h1 1 (by omega)
    have a2 := h1 2 (by omega)
    rw [own_iff (by omega) hok] at a0 a1 a2
    simp only [decide_eq_false_iff_not] at a0 a1 a2
    unfold ownerC okc at *
    simp only [Bool.or_eq_true, decide_eq_true_eq] at hok
    split at a0 <;> split at h2 <;> simp_all <;> omega
  simp only [owner, hv, hp, if_true, e]
theorem ne_len {α : Type} [DecidableEq α] {l l2 : List α} (h : ¬ (l.length : Int) = l2.length) : decide (l = l2) = false := decide_eq_false fun e => h (by rw [e])
theorem ne_at {α : Type} [DecidableEq α] {l l2 : List α} {d : α} {k : Nat} (h : ¬ l.getD k d = l2.getD k d) : decide (l = l2) = false := decide_eq_false fun e => h (by rw [e])
theorem eq_at {α : Type} [DecidableEq α] {l l2 : List α} {d : α} (hl : l.length = l2.length) (h : ∀ j, j < l.length → l.getD j d = l2.getD j d) : decide (l = l2) = true := decide_eq_true (by
  apply List.ext_getElem hl
  intro i h1 h2
  have := h i h1
  simpa [List.getD, h1, h2] using this)
theorem getD_mem {l : List UInt8} {j : Nat} (h : j < l.length) : l.getD j 0 ∈ l := by simp [List.getD, h]
theorem okc_at {w h : Int} {l : List UInt8} (hv : validF w h l = true) {j : Nat} (hj : j < l.length) : okc (l.getD j 0) = true := (validF_iff.1 hv).2 _ (getD_mem hj)
theorem has_lt {w h : Int} {l : List UInt8} {p : Int} (hv : validF w h l = true) (hp : has w h p = true) : 0 ≤ p ∧ p < l.length ∧ p.toNat < l.length := by
  have h1 := (validF_iff.1 hv).1.2
  have h2 := has_iff.1 hp
  omega
end Fl
end Go.Proofs.Yteibcphdbkgcgaa
