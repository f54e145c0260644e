/- Laws about configs, plainly: one cell, entry or spot replaced, the order of spots, projections compared. No program in sight. -/
import Derived.Test.YteibcphdbkgcgaaEx
namespace Go.Proofs.Yteibcphdbkgcgaa
set_option linter.unusedSimpArgs false
set_option linter.unusedVariables false
namespace Cf
open Go
theorem all_set {α : Type} {q : α → Bool} : ∀ {l : List α} {i : Nat} {v : α}, l.all q = true → i < l.length → (l.set i v).all q = q v := by
  intro l
  induction l with
  | nil => intro i v _ h; simp at h
  | cons a r ih =>
    intro i v h hi
    simp only [List.all_cons, Bool.and_eq_true] at h
    cases i with
    | zero => simp [h.2]
    | succ i => simp only [List.set_cons_succ, List.all_cons, h.1, Bool.true_and]; exact ih h.2 (by simpa using hi)
theorem teamsOk_iff {g : C} : teamsOk g = true ↔ (1 ≤ g.ts.length ∧ g.ts.length ≤ 3) ∧ (∀ j, j < g.ts.length → teamOk g j = true) ∧ (g.l.all (belongs g.ts) = true ∧ g.s.all (belongs g.ts) = true) ∧ (List.range g.ts.length).any (fun j => !absent (g.ts.getD j T.z)) = true := by
  unfold teamsOk
  simp only [Bool.and_eq_true, decide_eq_true_eq]
  rw [List.all_eq_true]
  simp only [List.mem_range]
  constructor
  · rintro ⟨⟨⟨⟨⟨a, b⟩, c⟩, d⟩, e⟩, f⟩; exact ⟨⟨a, b⟩, c, ⟨d, e⟩, f⟩
  · rintro ⟨⟨a, b⟩, c, ⟨d, e⟩, f⟩; exact ⟨⟨⟨⟨⟨a, b⟩, c⟩, d⟩, e⟩, f⟩
theorem check_iff {g : C} : check g = 0 ↔ Fl.validF g.a g.b g.l = true ∧ Fl.validS g.s = true ∧ teamsOk g = true ∧ g.st ≤ 4611686018427387904 := by
  constructor
  · exact check_zero
  · rintro ⟨h1, h2, h3, h4⟩
    unfold check
    rw [if_pos h1, if_pos h2, if_pos h3, if_pos h4]
/-! ### One entry of the slice table replaced -/
theorem check_setS {g : C} {i : Nat} {v : UInt8} (h : check g = 0) (hi : i < g.s.length) :
    check ⟨g.a, g.b, g.l, g.s.set i v, g.ts, g.st⟩ = if (v.toNat : Int) ≤ 3 then (if belongs g.ts v then 0 else 70) else 60 := by
  obtain ⟨h1, h2, h3, h4⟩ := check_zero h
  obtain ⟨hl, hall⟩ := Fl.validS_iff.1 h2
  have hS : Fl.validS (g.s.set i v) = decide (v.toNat ≤ 3) := by
    have := all_set (q := fun c : UInt8 => decide (c.toNat ≤ 3)) (v := v) (List.all_eq_true.2 fun c hc => decide_eq_true (hall c hc)) hi
    unfold Fl.validS
    rw [List.length_set, this, decide_eq_true hl.1, decide_eq_true hl.2]
    rfl
  have hT : teamsOk ⟨g.a, g.b, g.l, g.s.set i v, g.ts, g.st⟩ = belongs g.ts v := by
    obtain ⟨a, b, ⟨c, d⟩, e⟩ := teamsOk_iff.1 h3
    have d' := all_set (v := v) d hi
    cases hb : belongs g.ts v with
    | true => exact teamsOk_iff.2 ⟨a, b, ⟨c, d'.trans hb⟩, e⟩
    | false =>
      cases ht : teamsOk ⟨g.a, g.b, g.l, g.s.set i v, g.ts, g.st⟩ with
      | false => rfl
      | true =>
        have := (teamsOk_iff.1 ht).2.2.1.2
        have e2 := this.symm.trans (d'.trans hb)
        cases e2
  unfold check
  by_cases hv : v.toNat ≤ 3
  · have hv' : (v.toNat : Int) ≤ 3 := by omega
    simp only [h1, hS, hT, h4, if_true, decide_eq_true hv, hv']
  · have hv' : ¬ (v.toNat : Int) ≤ 3 := by omega
    simp only [h1, hS, if_true, decide_eq_false hv, hv', if_false, Bool.false_eq_true]
/-! ### One cell replaced -/
def SpotAt (ts : List T) (p s : Int) : Prop := (s = -1 ∧ ∀ j, j < ts.length → ¬ p ∈ spots (ts.getD j T.z)) ∨ ∃ t : Nat, s = t ∧ t < ts.length ∧ p ∈ spots (ts.getD t T.z)
theorem ownAt_set {l : List UInt8} {p : Nat} {v : UInt8} {t q : Int} (hp : p < l.length) : ownAt (l.set p v) t q = if q = p then Fl.own t v else ownAt l t q := by
  unfold ownAt
  rw [List.length_set]
  by_cases hq : q = p
  · subst hq
    rw [if_pos rfl, decide_eq_true (by omega), decide_eq_true (by omega), Int.toNat_natCast]
    simp [List.getD, hp]
  · rw [if_neg hq]
    by_cases h0 : 0 ≤ q
    · have : ¬ p = q.toNat := by omega
      rw [List.getD_eq_getElem?_getD, List.getElem?_set_ne this, ← List.getD_eq_getElem?_getD]
    · rw [decide_eq_false h0]; rfl
theorem own_dec {t : Int} {v : UInt8} (ht : 0 ≤ t ∧ t < 3) : Fl.own t v = decide ((v.toNat : Int) = t + 1) := by
  unfold Fl.own; rw [decide_eq_true ht.1, decide_eq_true ht.2]; rfl
theorem valid_at {l : List UInt8} {t : Int} {m : T} (h : validTeam l t m = true) {p : Int} (hp : p ∈ spots m) : ownAt l t p = true := by
  unfold validTeam at h
  simp only [Bool.and_eq_true, List.all_eq_true] at h
  exact h.1.2 p hp
theorem validTeam_other {l : List UInt8} {t : Int} {m : T} {p : Nat} {v : UInt8} (hp : p < l.length) (hn : ¬ (p : Int) ∈ spots m) : validTeam (l.set p v) t m = validTeam l t m := by
  unfold validTeam
  congr 2
  rw [Bool.eq_iff_iff, List.all_eq_true, List.all_eq_true]
  have : ∀ q ∈ spots m, ownAt (l.set p v) t q = ownAt l t q := fun q hq => by
    rw [ownAt_set hp, if_neg (show ¬ q = (p : Int) from fun e => hn (e ▸ hq))]
  constructor
  · intro h q hq; rw [← this q hq]; exact h q hq
  · intro h q hq; rw [this q hq]; exact h q hq
theorem validTeam_there {l : List UInt8} {t : Int} {m : T} {p : Nat} {v : UInt8} (hp : p < l.length) (hv : validTeam l t m = true) (hm : (p : Int) ∈ spots m) : validTeam (l.set p v) t m = Fl.own t v := by
  have ha : ∀ q ∈ spots m, ownAt (l.set p v) t q = if q = p then Fl.own t v else true := fun q hq => by
    rw [ownAt_set hp, valid_at hv hq]
  have hk := hv
  unfold validTeam at hk ⊢
  simp only [Bool.and_eq_true] at hk
  rw [hk.1.1, hk.2]
  simp only [Bool.true_and, Bool.and_true]
  cases ho : Fl.own t v with
  | true => exact List.all_eq_true.2 fun q hq => by rw [ha q hq, ho]; split <;> rfl
  | false => exact List.all_eq_false.2 ⟨p, hm, by rw [ha p hm, if_pos rfl, ho]; simp⟩
theorem absent_spots {m : T} (h : absent m = true) (p : Int) : ¬ p ∈ spots m := by
  have : m = T.z := of_decide_eq_true h
  subst this
  simp [spots, T.z]
theorem one_owner {l : List UInt8} {t u : Nat} {p : Int} (h : ownAt l t p = true) (h2 : ownAt l u p = true) : t = u := by
  unfold ownAt Fl.own at h h2
  simp only [Bool.and_eq_true, decide_eq_true_eq] at h h2
  omega
theorem check_setL {g : C} {p : Nat} {v : UInt8} {s : Int} (h : check g = 0) (hp : p < g.l.length) (hs : SpotAt g.ts p s) :
    check ⟨g.a, g.b, g.l.set p v, g.s, g.ts, g.st⟩ = if Fl.okc v then (if belongs g.ts v && (decide (s < 0) || decide ((v.toNat : Int) = s + 1)) then 0 else 70) else 50 := by
  obtain ⟨h1, h2, h3, h4⟩ := check_zero h
  obtain ⟨a, b, ⟨c, d⟩, e⟩ := teamsOk_iff.1 h3
  have c' := all_set (v := v) c hp
  cases hok : Fl.okc v with
  | false =>
    unfold check
    rw [if_neg (show ¬ Fl.validF g.a g.b (g.l.set p v) = true by rw [Fl.validF_set_bad hp hok]; simp)]
    simp
  | true =>
    have hT : teamsOk ⟨g.a, g.b, g.l.set p v, g.s, g.ts, g.st⟩ = (belongs g.ts v && (decide (s < 0) || decide ((v.toNat : Int) = s + 1))) := by
      rw [Bool.eq_iff_iff, teamsOk_iff, Bool.and_eq_true]
      have hx : (∀ j, j < g.ts.length → teamOk ⟨g.a, g.b, g.l.set p v, g.s, g.ts, g.st⟩ j = true) ↔ (decide (s < 0) || decide ((v.toNat : Int) = s + 1)) = true := by
        rcases hs with ⟨rfl, hn⟩ | ⟨t, rfl, ht, hm⟩
        · refine ⟨fun _ => rfl, fun _ j hj => ?_⟩
          have := b j hj
          unfold teamOk at this ⊢
          show (absent (g.ts.getD j T.z) || validTeam (g.l.set p v) j (g.ts.getD j T.z)) = true
          rw [validTeam_other hp (hn j hj)]; exact this
        · have hna : absent (g.ts.getD t T.z) = false := by
            cases ha : absent (g.ts.getD t T.z) with
            | false => rfl
            | true => exact absurd hm (absent_spots ha _)
          have hvt : validTeam g.l t (g.ts.getD t T.z) = true := by
            have := b t ht
            unfold teamOk at this
            rw [hna] at this
            exact this
          have h3t : (0 : Int) ≤ (t : Int) ∧ (t : Int) < 3 := by omega
          rw [show decide ((t : Int) < 0) = false from decide_eq_false (by omega), Bool.false_or, ← own_dec h3t, ← validTeam_there hp hvt hm]
          constructor
          · intro hall
            have := hall t ht
            unfold teamOk at this
            rw [hna] at this
            exact this
          · intro hv j hj
            by_cases hjt : j = t
            · subst hjt
              unfold teamOk
              rw [hna]
              exact hv
            · have := b j hj
              unfold teamOk at this ⊢
              rw [Bool.or_eq_true] at this ⊢
              rcases this with ha | hva
              · exact .inl ha
              · refine .inr ?_
                show validTeam (g.l.set p v) j (g.ts.getD j T.z) = true
                rw [validTeam_other hp (fun hmj => hjt (one_owner (valid_at hva hmj) (valid_at hvt hm)))]
                exact hva
      constructor
      · rintro ⟨_, hb, ⟨hc, _⟩, _⟩
        exact ⟨c'.symm.trans hc, hx.1 hb⟩
      · rintro ⟨hb, hv⟩
        exact ⟨a, hx.2 hv, ⟨c'.trans hb, d⟩, e⟩
    unfold check
    simp only [Fl.validF_set h1 hok, h2, hT, h4, if_true]
/-! ### Projections compared -/
def agr (g h : C) (t : Nat) : Prop := (g.a = h.a ∧ g.b = h.b ∧ g.s.length = h.s.length ∧ g.ts.length = h.ts.length ∧ g.st = h.st ∧ g.ts.getD t T.z = h.ts.getD t T.z) ∧
  (∀ p, p < g.l.length → (Fl.own t (g.l.getD p 0) = Fl.own t (h.l.getD p 0) ∧ decide (Fl.ownerC (g.l.getD p 0) = -2) = decide (Fl.ownerC (h.l.getD p 0) = -2))) ∧ ∀ i, i < g.s.length → (((g.s.getD i 0).toNat : Int) = t + 1 ↔ ((h.s.getD i 0).toNat : Int) = t + 1)
instance (g h : C) (t : Nat) : Decidable (agr g h t) := by unfold agr; infer_instance
theorem oc_eq {t : Nat} {x y : UInt8} (ht : t < 3) : oc t x = oc t y ↔ Fl.own t x = Fl.own t y ∧ decide (Fl.ownerC x = -2) = decide (Fl.ownerC y = -2) := by
  have h3 : (0 : Int) ≤ (t : Int) ∧ (t : Int) < 3 := by omega
  rw [own_dec h3, own_dec h3, decide_eq_decide, ← Fl.aisle_iff, ← Fl.aisle_iff, decide_eq_decide]
  have hx : (oc t x).toNat = if (x.toNat : Int) = t + 1 ∨ (x.toNat : Int) = 255 then x.toNat else 0 := by unfold oc; split <;> rfl
  have hy : (oc t y).toNat = if (y.toNat : Int) = t + 1 ∨ (y.toNat : Int) = 255 then y.toNat else 0 := by unfold oc; split <;> rfl
  constructor
  · intro e
    have e2 := congrArg UInt8.toNat e
    rw [hx, hy] at e2
    split at e2 <;> split at e2 <;> omega
  · rintro ⟨h1, h2⟩
    apply UInt8.toNat_inj.1
    rw [hx, hy]
    split <;> split <;> omega
theorem os_eq {t : Nat} {x y : UInt8} : os t x = os t y ↔ ((x.toNat : Int) = t + 1 ↔ (y.toNat : Int) = t + 1) := by
  have hx : (os t x).toNat = if (x.toNat : Int) = t + 1 then x.toNat else 0 := by unfold os; split <;> rfl
  have hy : (os t y).toNat = if (y.toNat : Int) = t + 1 then y.toNat else 0 := by unfold os; split <;> rfl
  constructor
  · intro e
    have e2 := congrArg UInt8.toNat e
    rw [hx, hy] at e2
    split at e2 <;> split at e2 <;> omega
  · intro h1
    apply UInt8.toNat_inj.1
    rw [hx, hy]
    split <;> split <;> omega
theorem map_eq_iff {f : UInt8 → UInt8} {l m : List UInt8} (h : l.length = m.length) : l.map f = m.map f ↔ ∀ p, p < l.length → f (l.getD p 0) = f (m.getD p 0) := by
  constructor
  · intro e p hp
    have := congrArg (·[p]?) e
    simp only [List.getElem?_map, List.getElem?_eq_getElem hp, List.getElem?_eq_getElem (h ▸ hp), Option.map_some, Option.some.injEq] at this
    simpa [List.getD, hp, h ▸ hp] using this
  · intro hf
    exact of_decide_eq_true (map_eq (z := 0) h hf)
theorem oneTeam_eq {ts us : List T} {t : Nat} (h : ts.length = us.length) (ht : t < ts.length) : oneTeam ts t ts.length = oneTeam us t us.length ↔ ts.getD t T.z = us.getD t T.z := by
  unfold oneTeam
  rw [← h]
  constructor
  · intro e
    have := congrArg (·[t]?) e
    simp only [List.getElem?_map, List.getElem?_range ht, Option.map_some, Option.some.injEq, if_true] at this
    exact this
  · intro e
    apply List.map_congr_left
    intro i _
    by_cases hi : (i : Int) = t
    · rw [if_pos hi, if_pos hi, show i = t by omega, e]
    · rw [if_neg hi, if_neg hi]
theorem only_agr {g h : C} {t : Int} (hg : check g = 0) (hh : check h = 0) (pg : present g.ts t = true) (ph : present h.ts t = true) : only g t = only h t ↔ agr g h t.toNat := by
  obtain ⟨g1, g2, g3, _⟩ := check_zero hg
  obtain ⟨h1, h2, h3, _⟩ := check_zero hh
  have bg := present_b pg
  have bh := present_b ph
  have tg := teams_len g3
  have e : (t.toNat : Int) = t := by omega
  generalize hn : t.toNat = n at e
  subst e
  have vl : g.a = h.a → g.b = h.b → g.l.length = h.l.length := fun ea eb => by
    have e1 := (Fl.validF_iff.1 g1).1.2
    have e2 := (Fl.validF_iff.1 h1).1.2
    rw [ea, eb, ← e2] at e1
    omega
  unfold only agr
  simp only [C.mk.injEq]
  constructor
  · rintro ⟨ea, eb, el, es, et, est⟩
    have hl := vl ea eb
    have hsl : g.s.length = h.s.length := by simpa using congrArg List.length es
    have htl : g.ts.length = h.ts.length := by simpa [oneTeam] using congrArg List.length et
    exact ⟨⟨ea, eb, hsl, htl, est, (oneTeam_eq htl (by omega)).1 et⟩, fun p hp => (oc_eq (by omega)).1 ((map_eq_iff hl).1 el p hp), fun i hi => os_eq.1 ((map_eq_iff hsl).1 es i hi)⟩
  · rintro ⟨⟨ea, eb, hsl, htl, est, et⟩, hp, hi⟩
    have hl := vl ea eb
    exact ⟨ea, eb, (map_eq_iff hl).2 fun p hpl => (oc_eq (by omega)).2 (hp p hpl), (map_eq_iff hsl).2 fun i hil => os_eq.2 (hi i hil), (oneTeam_eq htl (by omega)).2 et, est⟩
/-! ### The order of spots -/
def swp (l : List Int) (a b : Nat) : List Int := (l.set a (l.getD b 0)).set b (l.getD a 0)
theorem swp_len (l : List Int) (a b : Nat) : (swp l a b).length = l.length := by simp [swp]
theorem swp_perm {l : List Int} {a b : Nat} (ha : a < l.length) (hb : b < l.length) : (swp l a b).Perm l := by
  have := List.set_set_perm ha hb
  simpa [swp, List.getD, ha, hb] using this
theorem checkTeam_perm {a b : Int} {l : List UInt8} {t : Int} {m m2 : T} (h1 : m2.h.Perm m.h) (h2 : m2.p.Perm m.p) (h3 : m2.d.Perm m.d) (hn : nums m2 = nums m) : checkTeam a b l t m2 = checkTeam a b l t m := by
  unfold nums at hn
  simp only [List.cons.injEq, and_true] at hn
  obtain ⟨n1, n2, n3, n4, n5⟩ := hn
  have hs : (spots m2).Perm (spots m) := (h1.append h2).append h3
  have ha : absent m2 = absent m := by
    rw [← absent_eq, ← absent_eq, h1.length_eq, h2.length_eq, h3.length_eq, n1, n2, n3, n4, n5]
  have hv : validTeam l t m2 = validTeam l t m := by
    unfold validTeam
    have e1 : numbers m2 = numbers m := by unfold numbers lims; rw [h1.length_eq, h2.length_eq, h3.length_eq, n1, n2, n3, n4, n5]
    have e2 : (spots m2).all (ownAt l t) = (spots m).all (ownAt l t) := by
      rw [Bool.eq_iff_iff, List.all_eq_true, List.all_eq_true]
      exact ⟨fun h q hq => h q (hs.mem_iff.2 hq), fun h q hq => h q (hs.mem_iff.1 hq)⟩
    have e3 : decide (spots m2).Nodup = decide (spots m).Nodup := decide_eq_decide.2 hs.nodup_iff
    rw [e1, e2, e3]
  unfold checkTeam
  rw [ha, hv]
theorem belongs_yes0 {ts : List T} {x : UInt8} (h : (x.toNat : Int) = 0) : belongs ts x = true := by unfold belongs; rw [decide_eq_true h]; rfl
theorem belongs_yes255 {ts : List T} {x : UInt8} (h : (x.toNat : Int) = 255) : belongs ts x = true := by unfold belongs; rw [decide_eq_true h, Bool.or_true]; rfl
theorem belongs_yes {ts : List T} {x : UInt8} (h : present ts ((x.toNat : Int) - 1) = true) : belongs ts x = true := by unfold belongs; rw [h, Bool.or_true]
theorem belongs_no {ts : List T} {x : UInt8} (h0 : ¬ (x.toNat : Int) = 0) (h1 : ¬ (x.toNat : Int) = 255) (h : present ts ((x.toNat : Int) - 1) = false) : belongs ts x = false := by unfold belongs; rw [decide_eq_false h0, decide_eq_false h1, h]; rfl
theorem not_mem_at {l : List Int} {p : Int} (h : ∀ j, j < l.length → ¬ l.getD j 0 = p) : ¬ p ∈ l := fun hm => by
  obtain ⟨i, hi, e⟩ := List.getElem_of_mem hm
  exact h i hi (by simpa [List.getD, hi] using e)
theorem mem_at {l : List Int} {p : Int} {j : Nat} (hj : j < l.length) (h : l.getD j 0 = p) : p ∈ l := h ▸ Fl.getD_mem' hj
theorem spots_small {m : T} (h : small m) : (spots m).length ≤ 9 := by rw [spots_len]; obtain ⟨a, b, c⟩ := h; omega
theorem at_small {g : C} (h : check g = 0) {k : Nat} (hk : k < g.ts.length) : small (g.ts.getD k T.z) := all_small h _ (getD_mem2 hk)
theorem spot_ex (ts : List T) (p : Int) : ∃ s, SpotAt ts p s := by
  by_cases h : ∃ t : Nat, t < ts.length ∧ p ∈ spots (ts.getD t T.z)
  · obtain ⟨t, h1, h2⟩ := h; exact ⟨t, .inr ⟨t, rfl, h1, h2⟩⟩
  · exact ⟨-1, .inl ⟨rfl, fun j hj hm => h ⟨j, hj, hm⟩⟩⟩
theorem spot_b {g : C} {p s : Int} (h : check g = 0) (hs : SpotAt g.ts p s) : -1 ≤ s ∧ s ≤ 3 := by
  have := teams_len (check_zero h).2.2.1
  rcases hs with ⟨rfl, _⟩ | ⟨t, rfl, ht, _⟩
  · omega
  · omega
theorem cell_yes {ts : List T} {x : UInt8} {s : Int} (hok : (x.toNat : Int) ≤ 3 ∨ (x.toNat : Int) = 255) (hb : belongs ts x = true) (hs : s < 0 ∨ (x.toNat : Int) = s + 1) : (if Fl.okc x then (if belongs ts x && (decide (s < 0) || decide ((x.toNat : Int) = s + 1)) then 0 else 70) else (50 : Int)) = 0 := by
  have h1 : Fl.okc x = true := by rw [Fl.okc_i, Bool.or_eq_true, decide_eq_true_eq, decide_eq_true_eq]; exact hok
  have h2 : (decide (s < 0) || decide ((x.toNat : Int) = s + 1)) = true := by rw [Bool.or_eq_true, decide_eq_true_eq, decide_eq_true_eq]; exact hs
  rw [h1, hb, h2]; rfl
theorem cell_no {ts : List T} {x : UInt8} {s : Int} (hok : (x.toNat : Int) ≤ 3 ∨ (x.toNat : Int) = 255) (hb : belongs ts x = false ∨ ¬ (s < 0 ∨ (x.toNat : Int) = s + 1)) : (if Fl.okc x then (if belongs ts x && (decide (s < 0) || decide ((x.toNat : Int) = s + 1)) then 0 else 70) else (50 : Int)) = 70 := by
  have h1 : Fl.okc x = true := by rw [Fl.okc_i, Bool.or_eq_true, decide_eq_true_eq, decide_eq_true_eq]; exact hok
  rw [h1]
  rcases hb with hb | hb
  · rw [hb]; rfl
  · have h2 : (decide (s < 0) || decide ((x.toNat : Int) = s + 1)) = false := by rw [← Bool.decide_or]; exact decide_eq_false hb
    rw [h2, Bool.and_false]; rfl
theorem val_len {g h : C} (hg : check g = 0) (hh : check h = 0) : g.a = h.a → g.b = h.b → g.l.length = h.l.length := fun ea eb => by
  have e1 := (Fl.validF_iff.1 (check_zero hg).1).1.2
  have e2 := (Fl.validF_iff.1 (check_zero hh).1).1.2
  rw [ea, eb, ← e2] at e1
  omega
theorem onlyR_yes {g : C} {t : Int} (hg : check g = 0) (hp : present g.ts t = true) : onlyR g t = (only g t, 0) := (if_pos hg).trans (if_pos hp)
theorem fit_perm {m m2 : T} (h : m.fit) (h1 : m2.h.Perm m.h) (h2 : m2.p.Perm m.p) (h3 : m2.d.Perm m.d) (hn : nums m2 = nums m) : m2.fit := by
  unfold nums at hn
  simp only [List.cons.injEq, and_true] at hn
  obtain ⟨n1, n2, n3, n4, n5⟩ := hn
  exact ⟨by rw [h1.length_eq]; exact h.h, by rw [h2.length_eq]; exact h.p, by rw [h3.length_eq]; exact h.d, fun n hn => h.hs n (h1.mem_iff.1 hn), fun n hn => h.ps n (h2.mem_iff.1 hn), fun n hn => h.ds n (h3.mem_iff.1 hn),
    n1 ▸ h.n1, n2 ▸ h.n2, n3 ▸ h.n3, n4 ▸ h.n4, n5 ▸ h.n5⟩
end Cf
namespace E
open Go Go.RowKit
section
variable {P : Program} {n : Nat} {w0 : World} {F : Nat → Prop} {K : Kt} {l : Env} {H : List HP} {o : Oper}
theorem CW.rowsome {c' : Code} (i : Nat) {Et sz m c : Nat} {A : Option Addr} {xs : List Value} {H' : List HP} (hi : E.sel H i = some (HP.row Et sz A m c xs, H')) (hm : 0 < xs.length) (k : A.isSome = true → CW P n w0 F c' K l H) : CW P n w0 F c' K l H := fun a w ha hw => by
  obtain ⟨ad, rfl, _⟩ := (hw.rdrow hi) hm
  exact k rfl a w ha hw
/-- an element's address, of a slice that is not nil. -/
theorem PV.indexAddrS {t e : TypeId} {x ix : Operand} {A : Option Addr} {m c : Nat} {k : IntKind} {i : Int} {j bytes : Nat} {z : Value} (hA : A.isSome = true) (hT : P.underlying t = some (.slice e)) (hI : In P e z 1 bytes)
    (ho : o.op = .indexAddr t x ix) (hx : ev l x = some (.slice A m c)) (hix : ev l ix = some (.int k i)) (hj : i = (j : Int)) (hlt : j < m) : PV P n w0 F l H o (eptr A j) := fun a w ha hw => by
  obtain ⟨ad, rfl⟩ := Option.isSome_iff_exists.1 hA
  obtain ⟨q, hq, _, hs, _⟩ := hI.parts
  subst hj
  simp [execOp, ho, ha.ev hx, ha.ev hix, Instr.indexAt, asIntOf, run_underlying hT, sizeOf, typeInfo, hq, hs, hlt, eptr, show (0 : Int) ≤ (j : Int) by omega]
end
end E
end Go.Proofs.Yteibcphdbkgcgaa
