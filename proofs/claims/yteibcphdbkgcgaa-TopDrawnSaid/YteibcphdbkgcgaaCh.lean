/- More laws about configs, plainly: the present tenants, the spots of two tenants, projections, encodings. No program in sight. -/
import Derived.Test.YteibcphdbkgcgaaCg
namespace Go.Proofs.Yteibcphdbkgcgaa
set_option linter.unusedSimpArgs false
set_option linter.unusedVariables false
namespace Cf
open Go
section
variable {g : C} {k : Nat}
theorem pres_ok (h : check g = 0) (hk : k < g.ts.length) : presence g k = (present g.ts k, 0) := by
  unfold presence; rw [if_pos h, if_neg (by omega)]
theorem teamsOk_of (h : check g = 0) : teamsOk g = true := (check_zero h).2.2.1
theorem team_at (h : check g = 0) (hk : k < g.ts.length) : absent (g.ts.getD k T.z) = true ∨ validTeam g.l k (g.ts.getD k T.z) = true := by
  have := (teamsOk_iff.1 (teamsOk_of h)).2.1 k hk
  unfold teamOk at this
  rwa [Bool.or_eq_true] at this
theorem team_ok (h : check g = 0) (hk : k < g.ts.length) : checkTeam g.a g.b g.l k (g.ts.getD k T.z) = 0 := by
  have hl := teams_len (teamsOk_of h)
  rw [checkTeam_if (check_zero h).1 (Fl.inB_iff.2 (by omega)), if_pos]
  rw [Bool.or_eq_true]
  exact team_at h hk
theorem priv_two (h : check g = 0) (hk : k < g.ts.length) : (Fl.priv g.a g.b g.l k).2 = 0 := by
  have hl := teams_len (teamsOk_of h)
  unfold Fl.priv; rw [if_pos (check_zero h).1, if_pos (Fl.inB_iff.2 (by omega))]
theorem priv_none (h : check g = 0) (hk : k < g.ts.length) (hp : present g.ts k = false) : (Fl.priv g.a g.b g.l k).1 = [] := by
  have hl := teams_len (teamsOk_of h)
  have hv := (check_zero h).1
  refine List.eq_nil_iff_forall_not_mem.2 fun p hm => ?_
  have h1 := (priv_mem hv (Fl.inB_iff.2 (show (0 : Int) ≤ k ∧ (k : Int) < 3 by omega)) p).symm.trans (decide_eq_true hm)
  unfold ownAt Fl.own at h1
  simp only [Bool.and_eq_true, decide_eq_true_eq] at h1
  have h2 := List.all_eq_true.1 (teamsOk_iff.1 (teamsOk_of h)).2.2.1.1 _ (Fl.getD_mem (l := g.l) (j := p.toNat) (by omega))
  unfold belongs at h2
  rw [decide_eq_false (by omega), decide_eq_false (by omega), show (((g.l.getD p.toNat 0).toNat : Int) - 1) = (k : Int) by omega, hp] at h2
  cases h2
theorem slice_who (h : check g = 0) (hk : k < g.s.length) : Fl.sliceOwner g.s k = (((g.s.getD k 0).toNat : Int) - 1, 0) := Fl.owner_at (check_zero h).2.1 hk
theorem slice_pres (h : check g = 0) (hk : k < g.s.length) (h0 : 0 ≤ ((g.s.getD k 0).toNat : Int) - 1) : present g.ts (((g.s.getD k 0).toNat : Int) - 1) = true := by
  have h2 := List.all_eq_true.1 (teamsOk_iff.1 (teamsOk_of h)).2.2.1.2 _ (Fl.getD_mem (l := g.s) (j := k) hk)
  have h3 := Fl.code_le (check_zero h).2.1 hk
  unfold belongs at h2
  rw [decide_eq_false (by omega), decide_eq_false (by omega)] at h2
  exact h2
theorem tenants_add (ts : List T) (k : Nat) : ∀ j, ∃ r, tenants ts (k + j) = tenants ts k ++ r := by
  intro j
  induction j with
  | zero => exact ⟨[], by simp⟩
  | succ j ih =>
    obtain ⟨r, hr⟩ := ih
    cases hp : present ts ((k + j : Nat) : Int) with
    | true => exact ⟨r ++ [((k + j : Nat) : Int)], by rw [← Nat.add_assoc, tenants_yes hp, hr, List.append_assoc]⟩
    | false => exact ⟨r, by rw [← Nat.add_assoc, tenants_no hp, hr]⟩
theorem tenants_at {ts : List T} (hk : k < ts.length) (hp : present ts k = true) : (tenants ts k).length < (tenants ts ts.length).length ∧ (tenants ts ts.length).getD (tenants ts k).length 0 = k := by
  obtain ⟨r, hr⟩ := tenants_add ts (k + 1) (ts.length - (k + 1))
  rw [show k + 1 + (ts.length - (k + 1)) = ts.length by omega, tenants_yes hp] at hr
  rw [hr]
  refine ⟨by simp only [List.length_append, List.length_cons]; omega, ?_⟩
  rw [List.getD_eq_getElem?_getD, List.append_assoc, List.getElem?_append_right (Nat.le_refl _), Nat.sub_self]
  rfl
theorem tenants_pos (h : check g = 0) : 1 ≤ (tenants g.ts g.ts.length).length := by
  have h1 := (teamsOk_iff.1 (teamsOk_of h)).2.2.2
  rw [any_tenants, Bool.not_eq_true', decide_eq_false_iff_not] at h1
  omega
theorem tenants_ok (h : check g = 0) : tenantsR g = (tenants g.ts g.ts.length, 0) := if_pos h
theorem bad_tenants (h : ¬ check g = 0) : tenantsR g = ([], check g) := if_neg h
theorem bad_pres {t : Int} (h : ¬ check g = 0) : presence g t = (false, check g) := if_neg h
theorem bad_only {t : Int} (h : ¬ check g = 0) : onlyR g t = (zero, check g) := if_neg h
theorem bad_enc (h : ¬ check g = 0) : encR g = ([], check g) := if_neg h
end
/-! ### The spots of valid teams -/
section
variable {a b : Int} {l : List UInt8} {t : Int} {m : T}
theorem ct_valid (h : checkTeam a b l t m = 0) (ha : absent m = false) : Fl.validF a b l = true ∧ (0 ≤ t ∧ t < 3) ∧ validTeam l t m = true := by
  unfold checkTeam at h
  split at h
  · rename_i hv
    split at h
    · rename_i ht
      rw [ha, Bool.false_or] at h
      split at h
      · rename_i hm; exact ⟨hv, Fl.inB_iff.1 ht, hm⟩
      · cases h
    · cases h
  · cases h
theorem ct_own' (h : checkTeam a b l t m = 0) {p : Int} (hp : p ∈ spots m) : ownAt l t p = true := by
  cases ha : absent m with
  | true => exact absurd hp (absent_spots ha p)
  | false => exact valid_at (ct_valid h ha).2.2 hp
theorem valid_small (h : validTeam l t m = true) : small m ∧ 3 ≤ (spots m).length := by
  unfold validTeam at h
  simp only [Bool.and_eq_true] at h
  have := numbers_len h.1.1
  exact ⟨⟨this.1.2, this.2.1.2, this.2.2.2⟩, by rw [spots_len]; omega⟩
theorem ct_small (h : checkTeam a b l t m = 0) : small m := by
  cases ha : absent m with
  | true =>
    have : m = T.z := of_decide_eq_true ha
    subst this
    exact ⟨by simp [T.z], by simp [T.z], by simp [T.z]⟩
  | false => exact (valid_small (ct_valid h ha).2.2).1
theorem valid_nodup (h : validTeam l t m = true) : (spots m).Nodup := by
  unfold validTeam at h
  simp only [Bool.and_eq_true, decide_eq_true_eq] at h
  exact h.2
theorem nodup_at {l : List Int} (h : l.Nodup) {i j : Nat} (hj : j < i) (hi : i < l.length) : ¬ l.getD j 0 = l.getD i 0 := by
  rw [List.getD_eq_getElem?_getD, List.getD_eq_getElem?_getD, List.getElem?_eq_getElem hi, List.getElem?_eq_getElem (show j < l.length by omega)]
  have := (List.pairwise_iff_getElem.1 h) j i (by omega) hi hj
  simpa using this
theorem own_at {p : Int} (hv : Fl.validF a b l = true) (ht : 0 ≤ t ∧ t < 3) : ownAt l t p = true ↔ Fl.owner a b l p = (t, 0) := by
  have hl := (Fl.validF_iff.1 hv).1
  unfold ownAt Fl.owner
  rw [if_pos hv]
  cases hp : Fl.has a b p with
  | true =>
    have h1 := Fl.has_lt hv hp
    rw [decide_eq_true h1.1, decide_eq_true h1.2.1, if_pos rfl, Fl.own_iff ht (Fl.okc_at hv h1.2.2)]
    simp
  | false =>
    rw [if_neg (by simp)]
    have : ¬ (0 ≤ p ∧ p < l.length) := fun hh => by
      have : Fl.has a b p = true := Fl.has_iff.2 ⟨Fl.valid_iff.1 hl.1, hh.1, by omega⟩
      rw [hp] at this; cases this
    rw [← Bool.decide_and, decide_eq_false this]
    constructor
    · intro h; cases h
    · intro h; have := congrArg Prod.snd h; cases this
theorem own_two {u : Int} {p : Int} (h : ownAt l t p = true) (h2 : ownAt l u p = true) : t = u := by
  unfold ownAt Fl.own at h h2
  simp only [Bool.and_eq_true, decide_eq_true_eq] at h h2
  omega
end
/-! ### One spot replaced -/
def repl (m : T) (i : Nat) (p : Int) : T := if i < m.h.length then ⟨m.h.set i p, m.p, m.d, m.n1, m.n2, m.n3, m.n4, m.n5⟩
  else if i - m.h.length < m.p.length then ⟨m.h, m.p.set (i - m.h.length) p, m.d, m.n1, m.n2, m.n3, m.n4, m.n5⟩
  else ⟨m.h, m.p, m.d.set (i - m.h.length - m.p.length) p, m.n1, m.n2, m.n3, m.n4, m.n5⟩
theorem spots_repl (m : T) (i : Nat) (p : Int) : spots (repl m i p) = (spots m).set i p := by
  unfold repl spots
  by_cases h1 : i < m.h.length
  · rw [if_pos h1]
    show m.h.set i p ++ m.p ++ m.d = _
    rw [List.set_append_left _ _ (by rw [List.length_append]; omega), List.set_append_left _ _ h1]
  · rw [if_neg h1]
    by_cases h2 : i - m.h.length < m.p.length
    · rw [if_pos h2]
      show m.h ++ m.p.set (i - m.h.length) p ++ m.d = _
      rw [List.set_append_left _ _ (by rw [List.length_append]; omega), List.set_append_right _ _ (by omega)]
    · rw [if_neg h2]
      show m.h ++ m.p ++ m.d.set (i - m.h.length - m.p.length) p = _
      rw [List.set_append_right _ _ (by rw [List.length_append]; omega), List.length_append]
      congr 2
      omega
theorem repl_lens (m : T) (i : Nat) (p : Int) : (repl m i p).h.length = m.h.length ∧ (repl m i p).p.length = m.p.length ∧ (repl m i p).d.length = m.d.length ∧ nums (repl m i p) = nums m := by
  unfold repl
  split
  · exact ⟨List.length_set, rfl, rfl, rfl⟩
  · split
    · exact ⟨rfl, List.length_set, rfl, rfl⟩
    · exact ⟨rfl, rfl, List.length_set, rfl⟩
theorem i64s_set {l : List Int} {i : Nat} {p : Int} (h : i64s l) (hp : i64 p) : i64s (l.set i p) := fun n hn => by
  rcases List.mem_or_eq_of_mem_set hn with h1 | rfl
  · exact h n h1
  · exact hp
theorem fit_repl {m : T} {i : Nat} {p : Int} (h : m.fit) (hp : i64 p) : (repl m i p).fit := by
  unfold repl
  split
  · exact ⟨by simpa using h.h, h.p, h.d, i64s_set h.hs hp, h.ps, h.ds, h.n1, h.n2, h.n3, h.n4, h.n5⟩
  · split
    · exact ⟨h.h, by simpa using h.p, h.d, h.hs, i64s_set h.ps hp, h.ds, h.n1, h.n2, h.n3, h.n4, h.n5⟩
    · exact ⟨h.h, h.p, by simpa using h.d, h.hs, h.ps, i64s_set h.ds hp, h.n1, h.n2, h.n3, h.n4, h.n5⟩
def oth (l : List Int) (ix p : Int) (k : Nat) : Bool := (List.range k).all fun j => decide ((j : Int) = ix) || !decide (l.getD j 0 = p)
theorem oth_succ (l : List Int) (ix p : Int) (k : Nat) : oth l ix p (k + 1) = (oth l ix p k && (decide ((k : Int) = ix) || !decide (l.getD k 0 = p))) := by
  unfold oth
  rw [List.range_succ, List.all_append]
  simp
theorem set_nodup {l : List Int} {i : Nat} {p : Int} (h : l.Nodup) (hi : i < l.length) : decide (l.set i p).Nodup = oth l i p l.length := by
  rw [Bool.eq_iff_iff, decide_eq_true_eq]
  unfold oth
  rw [List.all_eq_true]
  simp only [List.mem_range, Bool.or_eq_true, decide_eq_true_eq, Bool.not_eq_true', decide_eq_false_iff_not]
  have hg : ∀ j, j < l.length → (l.set i p).getD j 0 = if i = j then p else l.getD j 0 := fun j hj => by
    rw [List.getD_eq_getElem?_getD, List.getElem?_set]
    split
    · rfl
    · rw [← List.getD_eq_getElem?_getD]
  constructor
  · intro hn j hj
    rcases Nat.lt_trichotomy j i with hlt | rfl | hlt
    · refine .inr fun e => nodup_at hn hlt (by rw [List.length_set]; exact hi) ?_
      rw [hg j hj, hg i hi, if_neg (by omega), if_pos rfl, e]
    · exact .inl rfl
    · refine .inr fun e => nodup_at hn hlt (by rw [List.length_set]; exact hj) ?_
      rw [hg i hi, hg j hj, if_pos rfl, if_neg (by omega), e]
  · intro hall
    refine List.pairwise_iff_getElem.2 fun a b ha hb hab => ?_
    rw [List.length_set] at ha hb
    have e1 : l[a] = l.getD a 0 := by simp [List.getD, ha]
    have e2 : l[b] = l.getD b 0 := by simp [List.getD, hb]
    rw [List.getElem_set, List.getElem_set, e1, e2]
    split
    · rename_i hia
      rw [if_neg (by omega)]
      rcases hall b hb with h1 | h1
      · omega
      · exact fun e => h1 e.symm
    · split
      · rcases hall a ha with h1 | h1
        · omega
        · exact h1
      · exact nodup_at h hab hb
theorem ct_repl {a b : Int} {l : List UInt8} {t : Int} {m : T} {i : Nat} {p : Int} (h : checkTeam a b l t m = 0) (hi : i < (spots m).length) :
    checkTeam a b l t (repl m i p) = if (ownAt l t p && oth (spots m) i p (spots m).length) = true then 0 else 70 := by
  have ha : absent m = false := by
    cases ha : absent m with
    | false => rfl
    | true =>
      have : m = T.z := of_decide_eq_true ha
      subst this
      simp [spots, T.z] at hi
  obtain ⟨hv, ht, hm⟩ := ct_valid h ha
  obtain ⟨e1, e2, e3, e4⟩ := repl_lens m i p
  have ha2 : absent (repl m i p) = false := by
    cases ha : absent (repl m i p) with
    | false => rfl
    | true =>
      have h0 : repl m i p = T.z := of_decide_eq_true ha
      have h1 := congrArg List.length (spots_repl m i p)
      rw [h0, List.length_set] at h1
      have h2 : (spots m).length = 0 := h1.symm
      omega
  rw [checkTeam_if hv (Fl.inB_iff.2 ht), ha2, Bool.false_or]
  have hvt : validTeam l t (repl m i p) = (ownAt l t p && oth (spots m) i p (spots m).length) := by
    have hm' := hm
    unfold validTeam at hm' ⊢
    simp only [Bool.and_eq_true] at hm'
    have en : numbers (repl m i p) = numbers m := by
      unfold nums at e4
      simp only [List.cons.injEq, and_true] at e4
      obtain ⟨n1, n2, n3, n4, n5⟩ := e4
      unfold numbers lims
      rw [e1, e2, e3, n1, n2, n3, n4, n5]
    rw [en, hm'.1.1, spots_repl, all_set hm'.1.2 hi, set_nodup (of_decide_eq_true hm'.2) hi, Bool.true_and]
  rw [hvt]
theorem own_d1 {a b : Int} {l : List UInt8} {t p : Int} (hv : Fl.validF a b l = true) (ht : 0 ≤ t ∧ t < 3) (h : (Fl.owner a b l p).2 = 0) : decide ((Fl.owner a b l p).1 = t) = ownAt l t p := by
  rw [Bool.eq_iff_iff, decide_eq_true_eq, own_at hv ht]
  constructor
  · intro e; rw [← e, ← h]
  · intro e; rw [e]
theorem own_d2 {a b : Int} {l : List UInt8} {t p : Int} (hv : Fl.validF a b l = true) (ht : 0 ≤ t ∧ t < 3) (h : ¬ (Fl.owner a b l p).2 = 0) : false = ownAt l t p := by
  cases ho : ownAt l t p with
  | false => rfl
  | true => rw [own_at hv ht] at ho; rw [ho] at h; exact absurd rfl h
theorem pairb {s t : Nat} {X X' : Int} {B B' : Bool} (h1 : X = X') (h2 : B = B') : [(s, Value.int .i64 X), (t, .bool B)] = [(s, .int .i64 X'), (t, .bool B')] := by rw [h1, h2]
theorem and_no {A B : Bool} (h : A = false ∨ B = false) : ¬ (A && B) = true := by rcases h with h | h <;> simp [h]
theorem and_yes {A B : Bool} (h : A = true ∧ B = true) : (A && B) = true := by simp [h]
section
variable {A : Bool} {l : List Int} {ix p : Int} {k : Nat}
theorem oth_stop (h : A = false ∨ oth l ix p k = false) : false = (A && oth l ix p (k + 1)) := by rw [oth_succ]; rcases h with h | h <;> simp [h]
theorem oth_yes (h : A = true ∧ oth l ix p k = true) (hk : (k : Int) = ix) : true = (A && oth l ix p (k + 1)) := by rw [oth_succ, h.1, h.2, decide_eq_true hk]; rfl
theorem oth_no (h : A = true ∧ oth l ix p k = true) (hk : ¬ (k : Int) = ix) : (!decide (l.getD k 0 = p)) = (A && oth l ix p (k + 1)) := by rw [oth_succ, h.1, h.2, decide_eq_false hk]; simp
end
theorem spots_ct {a b : Int} {l : List UInt8} {t : Int} {m : T} (h : checkTeam a b l t m = 0) (hi : 0 < (spots m).length) : Fl.validF a b l = true ∧ (0 ≤ t ∧ t < 3) ∧ small m := by
  have ha : absent m = false := by
    cases ha : absent m with
    | false => rfl
    | true =>
      have : m = T.z := of_decide_eq_true ha
      subst this
      simp [spots, T.z] at hi
  obtain ⟨hv, ht, hm⟩ := ct_valid h ha
  exact ⟨hv, ht, (valid_small hm).1⟩
end Cf
end Go.Proofs.Yteibcphdbkgcgaa
