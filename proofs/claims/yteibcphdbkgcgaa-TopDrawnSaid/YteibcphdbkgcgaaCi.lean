/- Projections, plainly: valid, of one tenant, their own projections. No program in sight. -/
import Derived.Test.YteibcphdbkgcgaaCh
namespace Go.Proofs.Yteibcphdbkgcgaa
set_option linter.unusedSimpArgs false
set_option linter.unusedVariables false
namespace Cf
open Go
theorem oc_nat (t : Int) (x : UInt8) : (oc t x).toNat = if (x.toNat : Int) = t + 1 ∨ (x.toNat : Int) = 255 then x.toNat else 0 := by unfold oc; split <;> rfl
theorem os_nat (t : Int) (x : UInt8) : (os t x).toNat = if (x.toNat : Int) = t + 1 then x.toNat else 0 := by unfold os; split <;> rfl
theorem oc_zero (t : Int) : oc t 0 = 0 := by unfold oc; split <;> rfl
theorem os_zero (t : Int) : os t 0 = 0 := by unfold os; split <;> rfl
theorem getD_map {f : UInt8 → UInt8} (h : f 0 = 0) (l : List UInt8) (i : Nat) : (l.map f).getD i 0 = f (l.getD i 0) := by
  rw [List.getD_eq_getElem?_getD, List.getD_eq_getElem?_getD, List.getElem?_map]
  cases l[i]? with
  | none => exact h.symm
  | some x => rfl
theorem okc_oc {t : Int} {x : UInt8} (h : Fl.okc x = true) : Fl.okc (oc t x) = true := by
  unfold oc
  split
  · exact h
  · rfl
theorem own_oc {t : Int} (ht : 0 ≤ t ∧ t < 3) (x : UInt8) : Fl.own t (oc t x) = Fl.own t x := by
  rw [own_dec ht, own_dec ht]
  refine decide_eq_decide.2 ?_
  rw [oc_nat]
  split
  · exact Iff.rfl
  · omega
theorem aisle_oc {t : Int} (ht : 0 ≤ t ∧ t < 3) (x : UInt8) : decide (Fl.ownerC (oc t x) = -2) = decide (Fl.ownerC x = -2) := by
  rw [← Fl.aisle_iff, ← Fl.aisle_iff]
  refine decide_eq_decide.2 ?_
  rw [oc_nat]
  split
  · exact Iff.rfl
  · omega
theorem oc_oc (t : Int) (x : UInt8) : oc t (oc t x) = oc t x := by
  apply UInt8.toNat_inj.1
  rw [oc_nat, oc_nat]
  split
  · rfl
  · split
    · omega
    · rfl
theorem os_os (t : Int) (x : UInt8) : os t (os t x) = os t x := by
  apply UInt8.toNat_inj.1
  rw [os_nat, os_nat]
  split
  · rfl
  · split
    · omega
    · rfl
theorem ownAt_map {l : List UInt8} {t : Int} (ht : 0 ≤ t ∧ t < 3) (p : Int) : ownAt (l.map (oc t)) t p = ownAt l t p := by
  unfold ownAt
  rw [List.length_map, getD_map (oc_zero t), own_oc ht]
theorem validTeam_map {l : List UInt8} {t : Int} {m : T} (ht : 0 ≤ t ∧ t < 3) : validTeam (l.map (oc t)) t m = validTeam l t m := by
  unfold validTeam
  rw [show ownAt (l.map (oc t)) t = ownAt l t from funext fun p => ownAt_map ht p]
theorem one_len (ts : List T) (t : Int) (k : Nat) : (oneTeam ts t k).length = k := by simp [oneTeam]
theorem one_getD {ts : List T} {t : Int} {k j : Nat} (hj : j < k) : (oneTeam ts t k).getD j T.z = if (j : Int) = t then ts.getD j T.z else T.z := by
  unfold oneTeam
  rw [List.getD_eq_getElem?_getD, List.getElem?_map, List.getElem?_range hj]
  rfl
theorem absent_z : absent T.z = true := decide_eq_true rfl
theorem one_present {ts : List T} {t u : Int} (h : present ts t = true) : present (oneTeam ts t ts.length) u = decide (u = t) := by
  have hb := present_b h
  unfold present at h ⊢
  simp only [Bool.and_eq_true, decide_eq_true_eq, Bool.not_eq_true'] at h
  rw [one_len]
  by_cases hu : 0 ≤ u ∧ u < ts.length
  · rw [decide_eq_true hu.1, decide_eq_true hu.2, one_getD (by omega)]
    by_cases he : u = t
    · subst he
      rw [if_pos (by omega), h.2, decide_eq_true rfl]; rfl
    · rw [if_neg (by omega), absent_z, decide_eq_false he]; rfl
  · rw [← Bool.decide_and, decide_eq_false hu, decide_eq_false (by omega)]; rfl
theorem one_tenants {ts : List T} {t : Int} (h : present ts t = true) : ∀ k, k ≤ ts.length → tenants (oneTeam ts t ts.length) k = if t < k then [t] else [] := by
  have hb := present_b h
  intro k
  induction k with
  | zero => intro _; rw [if_neg (by omega)]; rfl
  | succ k ih =>
    intro hk
    have hp := one_present (u := (k : Int)) h
    by_cases he : (k : Int) = t
    · rw [decide_eq_true he] at hp
      rw [tenants_yes hp, ih (by omega), if_neg (by omega), if_pos (by omega), he]; rfl
    · rw [decide_eq_false he] at hp
      rw [tenants_no hp, ih (by omega)]
      by_cases hl : t < k
      · rw [if_pos hl, if_pos (by omega)]
      · rw [if_neg hl, if_neg (by omega)]
section
variable {g : C} {t : Int}
theorem only_b (h : check g = 0) (hp : present g.ts t = true) : (0 ≤ t ∧ t < 3) ∧ t < g.ts.length := by
  have h1 := teams_len (teamsOk_of h)
  have h2 := present_b hp
  omega
theorem only_valid (h : check g = 0) (hp : present g.ts t = true) : Fl.validF (only g t).a (only g t).b (only g t).l = true := by
  have hv := Fl.validF_iff.1 (check_zero h).1
  refine Fl.validF_iff.2 ⟨⟨hv.1.1, by show ((g.l.map (oc t)).length : Int) = _; rw [List.length_map]; exact hv.1.2⟩, fun c hc => ?_⟩
  obtain ⟨x, hx, rfl⟩ := List.mem_map.1 hc
  exact okc_oc (hv.2 x hx)
theorem only_check (h : check g = 0) (hp : present g.ts t = true) : check (only g t) = 0 := by
  obtain ⟨h1, h2, h3, h4⟩ := check_zero h
  obtain ⟨hb, hlt⟩ := only_b h hp
  obtain ⟨q1, q2, ⟨q3, q4⟩, q5⟩ := teamsOk_iff.1 h3
  have hbel : ∀ v : UInt8, (v.toNat : Int) = 0 ∨ (v.toNat : Int) = 255 ∨ (v.toNat : Int) = t + 1 → belongs (oneTeam g.ts t g.ts.length) v = true := fun v hv => by
    rcases hv with hv | hv | hv
    · exact belongs_yes0 hv
    · exact belongs_yes255 hv
    · exact belongs_yes (by rw [one_present hp]; exact decide_eq_true (by omega))
  refine check_iff.2 ⟨only_valid h hp, ?_, ?_, h4⟩
  · obtain ⟨s1, s2⟩ := Fl.validS_iff.1 h2
    refine Fl.validS_iff.2 ⟨by show 1 ≤ (g.s.map (os t)).length ∧ (g.s.map (os t)).length ≤ 16; rw [List.length_map]; exact s1, fun c hc => ?_⟩
    obtain ⟨x, hx, rfl⟩ := List.mem_map.1 hc
    have := s2 x hx
    rw [os_nat]
    split <;> omega
  · refine teamsOk_iff.2 ⟨?_, fun j hj => ?_, ⟨?_, ?_⟩, ?_⟩
    · show 1 ≤ (oneTeam g.ts t g.ts.length).length ∧ (oneTeam g.ts t g.ts.length).length ≤ 3
      rw [one_len]; exact q1
    · have hj2 : j < g.ts.length := by
        have hj3 : j < (oneTeam g.ts t g.ts.length).length := hj
        rwa [one_len] at hj3
      unfold teamOk
      show (absent ((oneTeam g.ts t g.ts.length).getD j T.z) || validTeam (g.l.map (oc t)) j ((oneTeam g.ts t g.ts.length).getD j T.z)) = true
      rw [one_getD hj2]
      by_cases he : (j : Int) = t
      · rw [if_pos he, he, validTeam_map hb]
        have := q2 j hj2
        unfold teamOk at this
        rw [he] at this
        exact this
      · rw [if_neg he, absent_z]; rfl
    · refine List.all_eq_true.2 fun c hc => ?_
      obtain ⟨x, hx, rfl⟩ := List.mem_map.1 hc
      refine hbel _ ?_
      rw [oc_nat]
      split <;> omega
    · refine List.all_eq_true.2 fun c hc => ?_
      obtain ⟨x, hx, rfl⟩ := List.mem_map.1 hc
      refine hbel _ ?_
      rw [os_nat]
      split <;> omega
    · refine List.any_eq_true.2 ⟨t.toNat, List.mem_range.2 (by show t.toNat < (oneTeam g.ts t g.ts.length).length; rw [one_len]; omega), ?_⟩
      show (!absent ((oneTeam g.ts t g.ts.length).getD t.toNat T.z)) = true
      rw [one_getD (by omega), if_pos (by omega)]
      unfold present at hp
      simp only [Bool.and_eq_true] at hp
      exact hp.2
theorem only_tenants (h : check g = 0) (hp : present g.ts t = true) : tenantsR (only g t) = ([t], 0) := by
  have hb := only_b h hp
  rw [tenants_ok (only_check h hp)]
  show (tenants (oneTeam g.ts t g.ts.length) (oneTeam g.ts t g.ts.length).length, (0 : Int)) = _
  rw [one_len, one_tenants hp _ (Nat.le_refl _), if_pos hb.2]
theorem only_present (hp : present g.ts t = true) : present (only g t).ts t = true := by
  show present (oneTeam g.ts t g.ts.length) t = true
  rw [one_present hp]; exact decide_eq_true rfl
theorem only_only (h : check g = 0) (hp : present g.ts t = true) : only (only g t) t = only g t := by
  unfold only
  simp only [C.mk.injEq, List.map_map, true_and, and_true]
  refine ⟨List.map_congr_left fun x _ => oc_oc t x, List.map_congr_left fun x _ => os_os t x, ?_⟩
  rw [one_len]
  unfold oneTeam
  refine List.map_congr_left fun j hj => ?_
  by_cases he : (j : Int) = t
  · rw [if_pos he, if_pos he]
    have := one_getD (ts := g.ts) (t := t) (k := g.ts.length) (j := j) (List.mem_range.1 hj)
    unfold oneTeam at this
    rw [this, if_pos he]
  · rw [if_neg he, if_neg he]
theorem onlyR_only (h : check g = 0) (hp : present g.ts t = true) : onlyR (only g t) t = (only g t, 0) := by
  rw [onlyR_yes (only_check h hp) (only_present hp), only_only h hp]
theorem places_map {q : UInt8 → Bool} {l : List UInt8} (hq : ∀ j, j < l.length → q (oc t (l.getD j 0)) = q (l.getD j 0)) : Fl.places q (l.map (oc t)) (l.map (oc t)).length = Fl.places q l l.length := by
  unfold Fl.places
  rw [List.length_map]
  congr 1
  refine List.filter_congr fun p hp => ?_
  rw [getD_map (oc_zero t)]
  exact hq p (List.mem_range.1 hp)
theorem priv_only (h : check g = 0) (hp : present g.ts t = true) : Fl.priv (only g t).a (only g t).b (only g t).l t = Fl.priv g.a g.b g.l t := by
  have hb := (only_b h hp).1
  have hv := (check_zero h).1
  unfold Fl.priv
  rw [if_pos (only_valid h hp), if_pos hv]
  show (if Fl.inB t 3 then (Fl.places _ (g.l.map (oc t)) (g.l.map (oc t)).length, (0 : Int)) else _) = _
  rw [places_map (fun j hj => ?_)]
  have hc := Fl.okc_at hv hj
  rw [← Fl.own_iff hb (okc_oc hc), ← Fl.own_iff hb hc, own_oc hb]
theorem aisles_only (h : check g = 0) (hp : present g.ts t = true) : Fl.aisles (only g t).a (only g t).b (only g t).l = Fl.aisles g.a g.b g.l := by
  have hb := (only_b h hp).1
  have hv := (check_zero h).1
  unfold Fl.aisles
  rw [if_pos (only_valid h hp), if_pos hv]
  show (Fl.places _ (g.l.map (oc t)) (g.l.map (oc t)).length, (0 : Int)) = _
  rw [places_map (fun j hj => aisle_oc hb _)]
theorem aisles_err (h : check g = 0) : (Fl.aisles g.a g.b g.l).2 = 0 := by unfold Fl.aisles; rw [if_pos (check_zero h).1]
theorem priv_err (h : check g = 0) (hp : present g.ts t = true) : (Fl.priv g.a g.b g.l t).2 = 0 := by
  unfold Fl.priv; rw [if_pos (check_zero h).1, if_pos (Fl.inB_iff.2 (only_b h hp).1)]
theorem os_own (h0 : 0 ≤ t) (i : Nat) : ((((g.s.getD i 0).toNat : Int) - 1 = t) ↔ ((((only g t).s.getD i 0).toNat : Int) - 1 = t)) ∧ ((((only g t).s.getD i 0).toNat : Int) - 1 = t ∨ (((only g t).s.getD i 0).toNat : Int) - 1 = -1) := by
  show ((((g.s.getD i 0).toNat : Int) - 1 = t) ↔ ((((g.s.map (os t)).getD i 0).toNat : Int) - 1 = t)) ∧ ((((g.s.map (os t)).getD i 0).toNat : Int) - 1 = t ∨ (((g.s.map (os t)).getD i 0).toNat : Int) - 1 = -1)
  rw [getD_map (os_zero t), os_nat]
  split <;> omega
theorem only_err (h : ¬ check g = 0 ∨ present g.ts t = false) : ¬ (onlyR g t).2 = 0 := by
  unfold onlyR
  by_cases hc : check g = 0
  · rw [if_pos hc]
    rcases h with h | h
    · exact absurd hc h
    · rw [h]; simp
  · rw [if_neg hc]; exact hc
theorem only_team (h : check g = 0) (hp : present g.ts t = true) : (only g t).ts.getD t.toNat T.z = g.ts.getD t.toNat T.z := by
  have hb := only_b h hp
  show (oneTeam g.ts t g.ts.length).getD t.toNat T.z = _
  rw [one_getD (by omega), if_pos (by omega)]
end
end Cf
end Go.Proofs.Yteibcphdbkgcgaa
