/- The partition of a floor among the owners: plain law, no program in sight. -/
import Derived.Test.YteibcphdbkgcgaaFlO
namespace Go.Proofs.Yteibcphdbkgcgaa.Fl
set_option linter.unusedVariables false
set_option linter.unusedSimpArgs false

/-- the owner whose list is the t-th: tenants 0, 1, 2, then the aisles. -/
def who (t : Nat) : Int := if t = 3 then -2 else (t : Int)
def lst (l : List UInt8) (t : Nat) : List Int := places (fun x => decide (ownerC x = who t)) l l.length

theorem places_mem {q : UInt8 → Bool} {l : List UInt8} {k : Nat} {x : Int} : x ∈ places q l k ↔ ∃ p : Nat, p < k ∧ q (l.getD p 0) = true ∧ x = (p : Int) := by
  unfold places
  rw [List.mem_map]
  constructor
  · rintro ⟨p, hp, rfl⟩
    rw [List.mem_filter, List.mem_range] at hp
    exact ⟨p, hp.1, hp.2, rfl⟩
  · rintro ⟨p, h1, h2, rfl⟩
    exact ⟨p, by rw [List.mem_filter, List.mem_range]; exact ⟨h1, h2⟩, rfl⟩

theorem places_asc (q : UInt8 → Bool) (l : List UInt8) (k : Nat) : (places q l k).Pairwise (· < ·) := by
  unfold places
  rw [List.pairwise_map]
  refine List.Pairwise.imp (R := fun (a b : Nat) => a < b) (fun h => by omega) ?_
  exact List.Pairwise.filter _ List.pairwise_lt_range

theorem getD_mem' {xs : List Int} {i : Nat} (h : i < xs.length) : xs.getD i 0 ∈ xs := by
  rw [List.getD_eq_getElem?_getD, List.getElem?_eq_getElem h, Option.getD_some]
  exact List.getElem_mem h

theorem lst_in {l : List UInt8} {t i : Nat} (h : i < (lst l t).length) :
    ∃ p : Nat, (lst l t).getD i 0 = (p : Int) ∧ p < l.length ∧ ownerC (l.getD p 0) = who t := by
  obtain ⟨p, h1, h2, h3⟩ := places_mem.1 (getD_mem' h)
  exact ⟨p, h3, h1, of_decide_eq_true h2⟩

theorem lst_b {l : List UInt8} {t i : Nat} (h : i < (lst l t).length) : 0 ≤ (lst l t).getD i 0 ∧ (lst l t).getD i 0 < l.length := by
  obtain ⟨p, h1, h2, _⟩ := lst_in h
  omega

theorem lst_asc {l : List UInt8} {t i j : Nat} (hj : j < i) (h : i < (lst l t).length) : (lst l t).getD j 0 < (lst l t).getD i 0 := by
  have hp := places_asc (fun x => decide (ownerC x = who t)) l l.length
  rw [List.pairwise_iff_getElem] at hp
  have := hp j i (by unfold lst at h; omega) h hj
  rw [List.getD_eq_getElem?_getD, List.getD_eq_getElem?_getD, List.getElem?_eq_getElem h, List.getElem?_eq_getElem (by omega : j < (lst l t).length)]
  exact this

theorem lst_prev {l : List UInt8} {t i : Nat} (h : i < (lst l t).length) (hi : 0 < (i : Int)) : (lst l t).getD ((i : Int) - 1).toNat 0 < (lst l t).getD i 0 :=
  lst_asc (by omega) h

/-- place p has been written: by an earlier owner's list, or by one of this one's first i entries. -/
def Done (l : List UInt8) (t i p : Nat) : Prop := (∃ u, u < t ∧ ownerC (l.getD p 0) = who u) ∨ ∃ j, j < i ∧ (lst l t).getD j 0 = (p : Int)
def Ow (l : List UInt8) (t i : Nat) (ys : List Int) : Prop :=
  ys.length = l.length ∧ ∀ p, p < l.length → (Done l t i p → ys.getD p 0 = ownerC (l.getD p 0)) ∧ (¬ Done l t i p → ys.getD p 0 = -1)

theorem getD_set' {xs : List Int} {i j : Nat} {v : Int} (hi : i < xs.length) : (xs.set i v).getD j 0 = if i = j then v else xs.getD j 0 := by
  rw [List.getD_eq_getElem?_getD, List.getD_eq_getElem?_getD, List.getElem?_set]
  by_cases h : i = j
  · subst h; simp [hi]
  · simp [h]

theorem fill_set {ys : List Int} {k : Nat} (h : ∀ j, j < k → ys.getD j 0 = -1) (hk : k < ys.length) : ∀ j, j < k + 1 → (ys.set k (-1)).getD j 0 = -1 := by
  intro j hj
  rw [getD_set' hk]
  split
  · rfl
  · exact h j (by omega)

theorem Ow_start {l : List UInt8} {ys : List Int} (h1 : ys.length = l.length) (h2 : ∀ j, j < l.length → ys.getD j 0 = -1) : Ow l 0 0 ys :=
  ⟨h1, fun p hp => ⟨fun hd => by rcases hd with ⟨u, hu, _⟩ | ⟨j, hj, _⟩ <;> omega, fun _ => h2 p hp⟩⟩

theorem who_inj {t u : Nat} (ht : t ≤ 3) (hu : u < t) : who u ≠ who t := by
  unfold who
  split <;> split <;> omega

theorem Ow_free {l : List UInt8} {t i : Nat} {ys : List Int} (h : Ow l t i ys) (ht : t ≤ 3) (hi : i < (lst l t).length) : ys.getD ((lst l t).getD i 0).toNat 0 = -1 := by
  obtain ⟨p, h1, h2, h3⟩ := lst_in hi
  rw [h1, Int.toNat_natCast]
  refine (h.2 p h2).2 ?_
  rintro (⟨u, hu, he⟩ | ⟨j, hj, he⟩)
  · exact who_inj ht hu (he.symm.trans h3)
  · have := lst_asc hj hi
    omega

theorem Ow_step {l : List UInt8} {t i : Nat} {ys : List Int} (h : Ow l t i ys) (hi : i < (lst l t).length) : Ow l t (i + 1) (ys.set ((lst l t).getD i 0).toNat (who t)) := by
  obtain ⟨p, h1, h2, h3⟩ := lst_in hi
  rw [h1, Int.toNat_natCast]
  refine ⟨by simpa using h.1, fun q hq => ?_⟩
  rw [getD_set' (by rw [h.1]; exact h2)]
  by_cases hpq : p = q
  · subst hpq
    rw [if_pos rfl]
    exact ⟨fun _ => h3.symm, fun hn => absurd (Or.inr ⟨i, by omega, h1⟩) hn⟩
  · rw [if_neg hpq]
    have hd : Done l t (i + 1) q ↔ Done l t i q := by
      unfold Done
      constructor
      · rintro (hd | ⟨j, hj, he⟩)
        · exact .inl hd
        · by_cases hji : j = i
          · subst hji; omega
          · exact .inr ⟨j, by omega, he⟩
      · rintro (hd | ⟨j, hj, he⟩)
        · exact .inl hd
        · exact .inr ⟨j, by omega, he⟩
    rw [hd]
    exact h.2 q hq

theorem Ow_next {l : List UInt8} {t i : Nat} {ys : List Int} (h : Ow l t i ys) (hi : i = (lst l t).length) : Ow l (t + 1) 0 ys := by
  refine ⟨h.1, fun q hq => ?_⟩
  have hd : Done l (t + 1) 0 q ↔ Done l t i q := by
    unfold Done
    constructor
    · rintro (⟨u, hu, he⟩ | ⟨j, hj, _⟩)
      · by_cases hut : u = t
        · subst hut
          have hm : (q : Int) ∈ lst l u := places_mem.2 ⟨q, hq, decide_eq_true he, rfl⟩
          obtain ⟨j, hj, hje⟩ := List.getElem_of_mem hm
          refine .inr ⟨j, by omega, ?_⟩
          rw [List.getD_eq_getElem?_getD, List.getElem?_eq_getElem hj]
          exact hje
        · exact .inl ⟨u, by omega, he⟩
      · omega
    · rintro (⟨u, hu, he⟩ | ⟨j, hj, he⟩)
      · exact .inl ⟨u, by omega, he⟩
      · obtain ⟨p, h1, h2, h3⟩ := lst_in (l := l) (t := t) (i := j) (by omega)
        have : p = q := by omega
        subst this
        exact .inl ⟨t, by omega, h3⟩
  rw [hd]
  exact h.2 q hq

theorem Ow_end {l : List UInt8} {ys : List Int} (h : Ow l 4 0 ys) {p : Nat} (hp : p < l.length) (hok : okc (l.getD p 0) = true) : ys.getD p 0 = ownerC (l.getD p 0) := by
  by_cases hd : Done l 4 0 p
  · exact (h.2 p hp).1 hd
  · rw [(h.2 p hp).2 hd]
    have hn : ∀ u, u < 4 → ownerC (l.getD p 0) ≠ who u := fun u hu he => hd (.inl ⟨u, hu, he⟩)
    have h0 := hn 0 (by omega)
    have h1 := hn 1 (by omega)
    have h2 := hn 2 (by omega)
    have h3 := hn 3 (by omega)
    rw [okc_i, Bool.or_eq_true, decide_eq_true_eq, decide_eq_true_eq] at hok
    simp [who] at h0 h1 h2 h3
    simp only [List.getD_eq_getElem?_getD] at *
    generalize l[p]?.getD 0 = c at *
    have hu := c.toNat_lt
    unfold ownerC at *
    split
    · rfl
    · rename_i hz
      rw [if_neg hz] at h0 h1 h2 h3
      split
      · rename_i hz2
        rw [if_pos hz2] at h3
        omega
      · rename_i hz2
        rw [if_neg hz2] at h0 h1 h2 h3
        omega

theorem wall_iff (c : UInt8) : decide (ownerC c = -1) = decide ((c.toNat : Int) = 0) := by
  have hu := c.toNat_lt
  refine decide_eq_decide.2 ?_
  unfold ownerC
  split
  · constructor <;> intro <;> omega
  · split <;> constructor <;> intro <;> omega

theorem priv_lst {a b : Int} {l : List UInt8} (hv : validF a b l = true) {t : Nat} (ht : t < 3) : priv a b l (t : Int) = (lst l t, 0) := by
  unfold priv lst
  rw [if_pos hv, if_pos (inB_iff.2 (by omega))]
  simp only [who, if_neg (show ¬ t = 3 by omega)]
theorem aisles_lst {a b : Int} {l : List UInt8} (hv : validF a b l = true) : aisles a b l = (lst l 3, 0) := by
  unfold aisles lst
  rw [if_pos hv]
  rfl
theorem lst_len (l : List UInt8) (t : Nat) : (lst l t).length ≤ l.length := places_len _ _ _
theorem owner_cell {a b : Int} {l : List UInt8} (hv : validF a b l = true) {k : Nat} (hk : k < l.length) : owner a b l (k : Int) = (ownerC (l.getD k 0), 0) := by
  unfold owner
  have h := (validF_iff.1 hv).1
  rw [if_pos hv, if_pos (has_iff.2 ⟨valid_iff.1 h.1, by omega, by have := h.2; omega⟩), Int.toNat_natCast]
end Go.Proofs.Yteibcphdbkgcgaa.Fl
