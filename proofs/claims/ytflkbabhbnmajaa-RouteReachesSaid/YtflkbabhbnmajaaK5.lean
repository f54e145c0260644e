/- Part 5 of the texts behind the law RouteReaches: the logic, plain laws and walks that it needs, for any input that the law speaks of. -/
import Derived.Test.YtflkbabhbnmajaaK4
/- Laws about configs, plainly: one cell, entry or spot replaced, the order of spots, projections compared. No program in sight. -/
namespace Go.Proofs.Ytflkbabhbnmajaa
set_option linter.unusedSimpArgs false
set_option linter.unusedVariables false
namespace Cf
open Go
theorem all_set {α : Type} {q : α → Bool} : ∀ {l : List α} {i : Nat} {v : α}, l.all q = true → i < l.length → (l.set i v).all q = q v := by
  intro l
  induction l with
  | nil => intro i v _ h; simp at h
  | cons a r ih =>
    intro i v h hi
    simp only [List.all_cons, Bool.and_eq_true] at h
    cases i with
    | zero => simp [h.2]
    | succ i => simp only [List.set_cons_succ, List.all_cons, h.1, Bool.true_and]; exact ih h.2 (by simpa using hi)
theorem teamsOk_iff {g : C} : teamsOk g = true ↔ (1 ≤ g.ts.length ∧ g.ts.length ≤ 3) ∧ (∀ j, j < g.ts.length → teamOk g j = true) ∧ (g.l.all (belongs g.ts) = true ∧ g.s.all (belongs g.ts) = true) ∧ (List.range g.ts.length).any (fun j => !absent (g.ts.getD j T.z)) = true := by
  unfold teamsOk
  simp only [Bool.and_eq_true, decide_eq_true_eq]
  rw [List.all_eq_true]
  simp only [List.mem_range]
  constructor
  · rintro ⟨⟨⟨⟨⟨a, b⟩, c⟩, d⟩, e⟩, f⟩; exact ⟨⟨a, b⟩, c, ⟨d, e⟩, f⟩
  · rintro ⟨⟨a, b⟩, c, ⟨d, e⟩, f⟩; exact ⟨⟨⟨⟨⟨a, b⟩, c⟩, d⟩, e⟩, f⟩
theorem check_iff {g : C} : check g = 0 ↔ Fl.validF g.a g.b g.l = true ∧ Fl.validS g.s = true ∧ teamsOk g = true ∧ g.st ≤ 4611686018427387904 := by
  constructor
  · exact check_zero
  · rintro ⟨h1, h2, h3, h4⟩
    unfold check
    rw [if_pos h1, if_pos h2, if_pos h3, if_pos h4]
/-! ### One entry of the slice table replaced -/
theorem check_setS {g : C} {i : Nat} {v : UInt8} (h : check g = 0) (hi : i < g.s.length) :
    check ⟨g.a, g.b, g.l, g.s.set i v, g.ts, g.st⟩ = if (v.toNat : Int) ≤ 3 then (if belongs g.ts v then 0 else 70) else 60 := by
  obtain ⟨h1, h2, h3, h4⟩ := check_zero h
  obtain ⟨hl, hall⟩ := Fl.validS_iff.1 h2
  have hS : Fl.validS (g.s.set i v) = decide (v.toNat ≤ 3) := by
    have := all_set (q := fun c : UInt8 => decide (c.toNat ≤ 3)) (v := v) (List.all_eq_true.2 fun c hc => decide_eq_true (hall c hc)) hi
    unfold Fl.validS
    rw [List.length_set, this, decide_eq_true hl.1, decide_eq_true hl.2]
    rfl
  have hT : teamsOk ⟨g.a, g.b, g.l, g.s.set i v, g.ts, g.st⟩ = belongs g.ts v := by
    obtain ⟨a, b, ⟨c, d⟩, e⟩ := teamsOk_iff.1 h3
    have d' := all_set (v := v) d hi
    cases hb : belongs g.ts v with
    | true => exact teamsOk_iff.2 ⟨a, b, ⟨c, d'.trans hb⟩, e⟩
    | false =>
      cases ht : teamsOk ⟨g.a, g.b, g.l, g.s.set i v, g.ts, g.st⟩ with
      | false => rfl
      | true =>
        have := (teamsOk_iff.1 ht).2.2.1.2
        have e2 := this.symm.trans (d'.trans hb)
        cases e2
  unfold check
  by_cases hv : v.toNat ≤ 3
  · have hv' : (v.toNat : Int) ≤ 3 := by omega
    simp only [h1, hS, hT, h4, if_true, decide_eq_true hv, hv']
  · have hv' : ¬ (v.toNat : Int) ≤ 3 := by omega
    simp only [h1, hS, if_true, decide_eq_false hv, hv', if_false, Bool.false_eq_true]
/-! ### One cell replaced -/
def SpotAt (ts : List T) (p s : Int) : Prop := (s = -1 ∧ ∀ j, j < ts.length → ¬ p ∈ spots (ts.getD j T.z)) ∨ ∃ t : Nat, s = t ∧ t < ts.length ∧ p ∈ spots (ts.getD t T.z)
theorem ownAt_set {l : List UInt8} {p : Nat} {v : UInt8} {t q : Int} (hp : p < l.length) : ownAt (l.set p v) t q = if q = p then Fl.own t v else ownAt l t q := by
  unfold ownAt
  rw [List.length_set]
  by_cases hq : q = p
  · subst hq
    rw [if_pos rfl, decide_eq_true (by omega), decide_eq_true (by omega), Int.toNat_natCast]
    simp [List.getD, hp]
  · rw [if_neg hq]
    by_cases h0 : 0 ≤ q
    · have : ¬ p = q.toNat := by omega
      rw [List.getD_eq_getElem?_getD, List.getElem?_set_ne this, ← List.getD_eq_getElem?_getD]
    · rw [decide_eq_false h0]; rfl
theorem own_dec {t : Int} {v : UInt8} (ht : 0 ≤ t ∧ t < 3) : Fl.own t v = decide ((v.toNat : Int) = t + 1) := by
  unfold Fl.own; rw [decide_eq_true ht.1, decide_eq_true ht.2]; rfl
theorem valid_at {l : List UInt8} {t : Int} {m : T} (h : validTeam l t m = true) {p : Int} (hp : p ∈ spots m) : ownAt l t p = true := by
  unfold validTeam at h
  simp only [Bool.and_eq_true, List.all_eq_true] at h
  exact h.1.2 p hp
theorem validTeam_other {l : List UInt8} {t : Int} {m : T} {p : Nat} {v : UInt8} (hp : p < l.length) (hn : ¬ (p : Int) ∈ spots m) : validTeam (l.set p v) t m = validTeam l t m := by
  unfold validTeam
  congr 2
  rw [Bool.eq_iff_iff, List.all_eq_true, List.all_eq_true]
  have : ∀ q ∈ spots m, ownAt (l.set p v) t q = ownAt l t q := fun q hq => by
    rw [ownAt_set hp, if_neg (show ¬ q = (p : Int) from fun e => hn (e ▸ hq))]
  constructor
  · intro h q hq; rw [← this q hq]; exact h q hq
  · intro h q hq; rw [this q hq]; exact h q hq
theorem validTeam_there {l : List UInt8} {t : Int} {m : T} {p : Nat} {v : UInt8} (hp : p < l.length) (hv : validTeam l t m = true) (hm : (p : Int) ∈ spots m) : validTeam (l.set p v) t m = Fl.own t v := by
  have ha : ∀ q ∈ spots m, ownAt (l.set p v) t q = if q = p then Fl.own t v else true := fun q hq => by
    rw [ownAt_set hp, valid_at hv hq]
  have hk := hv
  unfold validTeam at hk ⊢
  simp only [Bool.and_eq_true] at hk
  rw [hk.1.1, hk.2]
  simp only [Bool.true_and, Bool.and_true]
  cases ho : Fl.own t v with
  | true => exact List.all_eq_true.2 fun q hq => by rw [ha q hq, ho]; split <;> rfl
  | false => exact List.all_eq_false.2 ⟨p, hm, by rw [ha p hm, if_pos rfl, ho]; simp⟩
theorem absent_spots {m : T} (h : absent m = true) (p : Int) : ¬ p ∈ spots m := by
  have : m = T.z := of_decide_eq_true h
  subst this
  simp [spots, T.z]
theorem one_owner {l : List UInt8} {t u : Nat} {p : Int} (h : ownAt l t p = true) (h2 : ownAt l u p = true) : t = u := by
  unfold ownAt Fl.own at h h2
  simp only [Bool.and_eq_true, decide_eq_true_eq] at h h2
  omega
theorem check_setL {g : C} {p : Nat} {v : UInt8} {s : Int} (h : check g = 0) (hp : p < g.l.length) (hs : SpotAt g.ts p s) :
    check ⟨g.a, g.b, g.l.set p v, g.s, g.ts, g.st⟩ = if Fl.okc v then (if belongs g.ts v && (decide (s < 0) || decide ((v.toNat : Int) = s + 1)) then 0 else 70) else 50 := by
  obtain ⟨h1, h2, h3, h4⟩ := check_zero h
  obtain ⟨a, b, ⟨c, d⟩, e⟩ := teamsOk_iff.1 h3
  have c' := all_set (v := v) c hp
  cases hok : Fl.okc v with
  | false =>
    unfold check
    rw [if_neg (show ¬ Fl.validF g.a g.b (g.l.set p v) = true by rw [Fl.validF_set_bad hp hok]; simp)]
    simp
  | true =>
    have hT : teamsOk ⟨g.a, g.b, g.l.set p v, g.s, g.ts, g.st⟩ = (belongs g.ts v && (decide (s < 0) || decide ((v.toNat : Int) = s + 1))) := by
      rw [Bool.eq_iff_iff, teamsOk_iff, Bool.and_eq_true]
      have hx : (∀ j, j < g.ts.length → teamOk ⟨g.a, g.b, g.l.set p v, g.s, g.ts, g.st⟩ j = true) ↔ (decide (s < 0) || decide ((v.toNat : Int) = s + 1)) = true := by
        rcases hs with ⟨rfl, hn⟩ | ⟨t, rfl, ht, hm⟩
        · refine ⟨fun _ => rfl, fun _ j hj => ?_⟩
          have := b j hj
          unfold teamOk at this ⊢
          show (absent (g.ts.getD j T.z) || validTeam (g.l.set p v) j (g.ts.getD j T.z)) = true
          rw [validTeam_other hp (hn j hj)]; exact this
        · have hna : absent (g.ts.getD t T.z) = false := by
            cases ha : absent (g.ts.getD t T.z) with
            | false => rfl
            | true => exact absurd hm (absent_spots ha _)
          have hvt : validTeam g.l t (g.ts.getD t T.z) = true := by
            have := b t ht
            unfold teamOk at this
            rw [hna] at this
            exact this
          have h3t : (0 : Int) ≤ (t : Int) ∧ (t : Int) < 3 := by omega
          rw [show decide ((t : Int) < 0) = false from decide_eq_false (by omega), Bool.false_or, ← own_dec h3t, ← validTeam_there hp hvt hm]
          constructor
          · intro hall
            have := hall t ht
            unfold teamOk at this
            rw [hna] at this
            exact this
          · intro hv j hj
            by_cases hjt : j = t
            · subst hjt
              unfold teamOk
              rw [hna]
              exact hv
            · have := b j hj
              unfold teamOk at this ⊢
              rw [Bool.or_eq_true] at this ⊢
              rcases this with ha | hva
              · exact .inl ha
              · refine .inr ?_
                show validTeam (g.l.set p v) j (g.ts.getD j T.z) = true
                rw [validTeam_other hp (fun hmj => hjt (one_owner (valid_at hva hmj) (valid_at hvt hm)))]
                exact hva
      constructor
      · rintro ⟨_, hb, ⟨hc, _⟩, _⟩
        exact ⟨c'.symm.trans hc, hx.1 hb⟩
      · rintro ⟨hb, hv⟩
        exact ⟨a, hx.2 hv, ⟨c'.trans hb, d⟩, e⟩
    unfold check
    simp only [Fl.validF_set h1 hok, h2, hT, h4, if_true]
/-! ### Projections compared -/
def agr (g h : C) (t : Nat) : Prop := (g.a = h.a ∧ g.b = h.b ∧ g.s.length = h.s.length ∧ g.ts.length = h.ts.length ∧ g.st = h.st ∧ g.ts.getD t T.z = h.ts.getD t T.z) ∧
  (∀ p, p < g.l.length → (Fl.own t (g.l.getD p 0) = Fl.own t (h.l.getD p 0) ∧ decide (Fl.ownerC (g.l.getD p 0) = -2) = decide (Fl.ownerC (h.l.getD p 0) = -2))) ∧ ∀ i, i < g.s.length → (((g.s.getD i 0).toNat : Int) = t + 1 ↔ ((h.s.getD i 0).toNat : Int) = t + 1)
instance (g h : C) (t : Nat) : Decidable (agr g h t) := by unfold agr; infer_instance
theorem oc_eq {t : Nat} {x y : UInt8} (ht : t < 3) : oc t x = oc t y ↔ Fl.own t x = Fl.own t y ∧ decide (Fl.ownerC x = -2) = decide (Fl.ownerC y = -2) := by
  have h3 : (0 : Int) ≤ (t : Int) ∧ (t : Int) < 3 := by omega
  rw [own_dec h3, own_dec h3, decide_eq_decide, ← Fl.aisle_iff, ← Fl.aisle_iff, decide_eq_decide]
  have hx : (oc t x).toNat = if (x.toNat : Int) = t + 1 ∨ (x.toNat : Int) = 255 then x.toNat else 0 := by unfold oc; split <;> rfl
  have hy : (oc t y).toNat = if (y.toNat : Int) = t + 1 ∨ (y.toNat : Int) = 255 then y.toNat else 0 := by unfold oc; split <;> rfl
  constructor
  · intro e
    have e2 := congrArg UInt8.toNat e
    rw [hx, hy] at e2
    split at e2 <;> split at e2 <;> omega
  · rintro ⟨h1, h2⟩
    apply UInt8.toNat_inj.1
    rw [hx, hy]
    split <;> split <;> omega
theorem os_eq {t : Nat} {x y : UInt8} : os t x = os t y ↔ ((x.toNat : Int) = t + 1 ↔ (y.toNat : Int) = t + 1) := by
  have hx : (os t x).toNat = if (x.toNat : Int) = t + 1 then x.toNat else 0 := by unfold os; split <;> rfl
  have hy : (os t y).toNat = if (y.toNat : Int) = t + 1 then y.toNat else 0 := by unfold os; split <;> rfl
  constructor
  · intro e
    have e2 := congrArg UInt8.toNat e
    rw [hx, hy] at e2
    split at e2 <;> split at e2 <;> omega
  · intro h1
    apply UInt8.toNat_inj.1
    rw [hx, hy]
    split <;> split <;> omega
theorem map_eq_iff {f : UInt8 → UInt8} {l m : List UInt8} (h : l.length = m.length) : l.map f = m.map f ↔ ∀ p, p < l.length → f (l.getD p 0) = f (m.getD p 0) := by
  constructor
  · intro e p hp
    have := congrArg (·[p]?) e
    simp only [List.getElem?_map, List.getElem?_eq_getElem hp, List.getElem?_eq_getElem (h ▸ hp), Option.map_some, Option.some.injEq] at this
    simpa [List.getD, hp, h ▸ hp] using this
  · intro hf
    exact of_decide_eq_true (map_eq (z := 0) h hf)
theorem oneTeam_eq {ts us : List T} {t : Nat} (h : ts.length = us.length) (ht : t < ts.length) : oneTeam ts t ts.length = oneTeam us t us.length ↔ ts.getD t T.z = us.getD t T.z := by
  unfold oneTeam
  rw [← h]
  constructor
  · intro e
    have := congrArg (·[t]?) e
    simp only [List.getElem?_map, List.getElem?_range ht, Option.map_some, Option.some.injEq, if_true] at this
    exact this
  · intro e
    apply List.map_congr_left
    intro i _
    by_cases hi : (i : Int) = t
    · rw [if_pos hi, if_pos hi, show i = t by omega, e]
    · rw [if_neg hi, if_neg hi]
theorem only_agr {g h : C} {t : Int} (hg : check g = 0) (hh : check h = 0) (pg : present g.ts t = true) (ph : present h.ts t = true) : only g t = only h t ↔ agr g h t.toNat := by
  obtain ⟨g1, g2, g3, _⟩ := check_zero hg
  obtain ⟨h1, h2, h3, _⟩ := check_zero hh
  have bg := present_b pg
  have bh := present_b ph
  have tg := teams_len g3
  have e : (t.toNat : Int) = t := by omega
  generalize hn : t.toNat = n at e
  subst e
  have vl : g.a = h.a → g.b = h.b → g.l.length = h.l.length := fun ea eb => by
    have e1 := (Fl.validF_iff.1 g1).1.2
    have e2 := (Fl.validF_iff.1 h1).1.2
    rw [ea, eb, ← e2] at e1
    omega
  unfold only agr
  simp only [C.mk.injEq]
  constructor
  · rintro ⟨ea, eb, el, es, et, est⟩
    have hl := vl ea eb
    have hsl : g.s.length = h.s.length := by simpa using congrArg List.length es
    have htl : g.ts.length = h.ts.length := by simpa [oneTeam] using congrArg List.length et
    exact ⟨⟨ea, eb, hsl, htl, est, (oneTeam_eq htl (by omega)).1 et⟩, fun p hp => (oc_eq (by omega)).1 ((map_eq_iff hl).1 el p hp), fun i hi => os_eq.1 ((map_eq_iff hsl).1 es i hi)⟩
  · rintro ⟨⟨ea, eb, hsl, htl, est, et⟩, hp, hi⟩
    have hl := vl ea eb
    exact ⟨ea, eb, (map_eq_iff hl).2 fun p hpl => (oc_eq (by omega)).2 (hp p hpl), (map_eq_iff hsl).2 fun i hil => os_eq.2 (hi i hil), (oneTeam_eq htl (by omega)).2 et, est⟩
/-! ### The order of spots -/
def swp (l : List Int) (a b : Nat) : List Int := (l.set a (l.getD b 0)).set b (l.getD a 0)
theorem swp_len (l : List Int) (a b : Nat) : (swp l a b).length = l.length := by simp [swp]
theorem swp_perm {l : List Int} {a b : Nat} (ha : a < l.length) (hb : b < l.length) : (swp l a b).Perm l := by
  have := List.set_set_perm ha hb
  simpa [swp, List.getD, ha, hb] using this
theorem checkTeam_perm {a b : Int} {l : List UInt8} {t : Int} {m m2 : T} (h1 : m2.h.Perm m.h) (h2 : m2.p.Perm m.p) (h3 : m2.d.Perm m.d) (hn : nums m2 = nums m) : checkTeam a b l t m2 = checkTeam a b l t m := by
  unfold nums at hn
  simp only [List.cons.injEq, and_true] at hn
  obtain ⟨n1, n2, n3, n4, n5⟩ := hn
  have hs : (spots m2).Perm (spots m) := (h1.append h2).append h3
  have ha : absent m2 = absent m := by
    rw [← absent_eq, ← absent_eq, h1.length_eq, h2.length_eq, h3.length_eq, n1, n2, n3, n4, n5]
  have hv : validTeam l t m2 = validTeam l t m := by
    unfold validTeam
    have e1 : numbers m2 = numbers m := by unfold numbers lims; rw [h1.length_eq, h2.length_eq, h3.length_eq, n1, n2, n3, n4, n5]
    have e2 : (spots m2).all (ownAt l t) = (spots m).all (ownAt l t) := by
      rw [Bool.eq_iff_iff, List.all_eq_true, List.all_eq_true]
      exact ⟨fun h q hq => h q (hs.mem_iff.2 hq), fun h q hq => h q (hs.mem_iff.1 hq)⟩
    have e3 : decide (spots m2).Nodup = decide (spots m).Nodup := decide_eq_decide.2 hs.nodup_iff
    rw [e1, e2, e3]
  unfold checkTeam
  rw [ha, hv]
theorem belongs_yes0 {ts : List T} {x : UInt8} (h : (x.toNat : Int) = 0) : belongs ts x = true := by unfold belongs; rw [decide_eq_true h]; rfl
theorem belongs_yes255 {ts : List T} {x : UInt8} (h : (x.toNat : Int) = 255) : belongs ts x = true := by unfold belongs; rw [decide_eq_true h, Bool.or_true]; rfl
theorem belongs_yes {ts : List T} {x : UInt8} (h : present ts ((x.toNat : Int) - 1) = true) : belongs ts x = true := by unfold belongs; rw [h, Bool.or_true]
theorem belongs_no {ts : List T} {x : UInt8} (h0 : ¬ (x.toNat : Int) = 0) (h1 : ¬ (x.toNat : Int) = 255) (h : present ts ((x.toNat : Int) - 1) = false) : belongs ts x = false := by unfold belongs; rw [decide_eq_false h0, decide_eq_false h1, h]; rfl
theorem not_mem_at {l : List Int} {p : Int} (h : ∀ j, j < l.length → ¬ l.getD j 0 = p) : ¬ p ∈ l := fun hm => by
  obtain ⟨i, hi, e⟩ := List.getElem_of_mem hm
  exact h i hi (by simpa [List.getD, hi] using e)
theorem mem_at {l : List Int} {p : Int} {j : Nat} (hj : j < l.length) (h : l.getD j 0 = p) : p ∈ l := h ▸ Fl.getD_mem' hj
theorem spots_small {m : T} (h : small m) : (spots m).length ≤ 9 := by rw [spots_len]; obtain ⟨a, b, c⟩ := h; omega
theorem at_small {g : C} (h : check g = 0) {k : Nat} (hk : k < g.ts.length) : small (g.ts.getD k T.z) := all_small h _ (getD_mem2 hk)
theorem spot_ex (ts : List T) (p : Int) : ∃ s, SpotAt ts p s := by
  by_cases h : ∃ t : Nat, t < ts.length ∧ p ∈ spots (ts.getD t T.z)
  · obtain ⟨t, h1, h2⟩ := h; exact ⟨t, .inr ⟨t, rfl, h1, h2⟩⟩
  · exact ⟨-1, .inl ⟨rfl, fun j hj hm => h ⟨j, hj, hm⟩⟩⟩
theorem spot_b {g : C} {p s : Int} (h : check g = 0) (hs : SpotAt g.ts p s) : -1 ≤ s ∧ s ≤ 3 := by
  have := teams_len (check_zero h).2.2.1
  rcases hs with ⟨rfl, _⟩ | ⟨t, rfl, ht, _⟩
  · omega
  · omega
theorem cell_yes {ts : List T} {x : UInt8} {s : Int} (hok : (x.toNat : Int) ≤ 3 ∨ (x.toNat : Int) = 255) (hb : belongs ts x = true) (hs : s < 0 ∨ (x.toNat : Int) = s + 1) : (if Fl.okc x then (if belongs ts x && (decide (s < 0) || decide ((x.toNat : Int) = s + 1)) then 0 else 70) else (50 : Int)) = 0 := by
  have h1 : Fl.okc x = true := by rw [Fl.okc_i, Bool.or_eq_true, decide_eq_true_eq, decide_eq_true_eq]; exact hok
  have h2 : (decide (s < 0) || decide ((x.toNat : Int) = s + 1)) = true := by rw [Bool.or_eq_true, decide_eq_true_eq, decide_eq_true_eq]; exact hs
  rw [h1, hb, h2]; rfl
theorem cell_no {ts : List T} {x : UInt8} {s : Int} (hok : (x.toNat : Int) ≤ 3 ∨ (x.toNat : Int) = 255) (hb : belongs ts x = false ∨ ¬ (s < 0 ∨ (x.toNat : Int) = s + 1)) : (if Fl.okc x then (if belongs ts x && (decide (s < 0) || decide ((x.toNat : Int) = s + 1)) then 0 else 70) else (50 : Int)) = 70 := by
  have h1 : Fl.okc x = true := by rw [Fl.okc_i, Bool.or_eq_true, decide_eq_true_eq, decide_eq_true_eq]; exact hok
  rw [h1]
  rcases hb with hb | hb
  · rw [hb]; rfl
  · have h2 : (decide (s < 0) || decide ((x.toNat : Int) = s + 1)) = false := by rw [← Bool.decide_or]; exact decide_eq_false hb
    rw [h2, Bool.and_false]; rfl
theorem val_len {g h : C} (hg : check g = 0) (hh : check h = 0) : g.a = h.a → g.b = h.b → g.l.length = h.l.length := fun ea eb => by
  have e1 := (Fl.validF_iff.1 (check_zero hg).1).1.2
  have e2 := (Fl.validF_iff.1 (check_zero hh).1).1.2
  rw [ea, eb, ← e2] at e1
  omega
theorem onlyR_yes {g : C} {t : Int} (hg : check g = 0) (hp : present g.ts t = true) : onlyR g t = (only g t, 0) := (if_pos hg).trans (if_pos hp)
theorem fit_perm {m m2 : T} (h : m.fit) (h1 : m2.h.Perm m.h) (h2 : m2.p.Perm m.p) (h3 : m2.d.Perm m.d) (hn : nums m2 = nums m) : m2.fit := by
  unfold nums at hn
  simp only [List.cons.injEq, and_true] at hn
  obtain ⟨n1, n2, n3, n4, n5⟩ := hn
  exact ⟨by rw [h1.length_eq]; exact h.h, by rw [h2.length_eq]; exact h.p, by rw [h3.length_eq]; exact h.d, fun n hn => h.hs n (h1.mem_iff.1 hn), fun n hn => h.ps n (h2.mem_iff.1 hn), fun n hn => h.ds n (h3.mem_iff.1 hn),
    n1 ▸ h.n1, n2 ▸ h.n2, n3 ▸ h.n3, n4 ▸ h.n4, n5 ▸ h.n5⟩
end Cf
namespace E
open Go Go.RowKit
section
variable {P : Program} {n : Fr} {w0 : World} {F : Nat → Prop} {K : Kt} {l : Env} {H : List HP} {o : Oper}
theorem CW.rowsome {c' : Code} (i : Nat) {Et sz m c : Nat} {A : Option Addr} {xs : List Value} {H' : List HP} (hi : E.sel H i = some (HP.row Et sz A m c xs, H')) (hm : 0 < xs.length) (k : A.isSome = true → CW P n w0 F c' K l H) : CW P n w0 F c' K l H := fun a w ha hw => by
  obtain ⟨ad, rfl, _⟩ := (hw.rdrow hi) hm
  exact k rfl a w ha hw
/-- an element's address, of a slice that is not nil. -/
theorem PV.indexAddrS {t e : TypeId} {x ix : Operand} {A : Option Addr} {m c : Nat} {k : IntKind} {i : Int} {j bytes : Nat} {z : Value} (hA : A.isSome = true) (hT : P.underlying t = some (.slice e)) (hI : In P e z 1 bytes)
    (ho : o.op = .indexAddr t x ix) (hx : ev l x = some (.slice A m c)) (hix : ev l ix = some (.int k i)) (hj : i = (j : Int)) (hlt : j < m) : PV P n w0 F l H o (eptr A j) := fun a w ha hw => by
  obtain ⟨ad, rfl⟩ := Option.isSome_iff_exists.1 hA
  obtain ⟨q, hq, _, hs, _⟩ := hI.parts
  subst hj
  simp [execOp, ho, ha.ev hx, ha.ev hix, Instr.indexAt, asIntOf, run_underlying hT, sizeOf, typeInfo, hq, hs, hlt, eptr, show (0 : Int) ≤ (j : Int) by omega]
end
end E
end Go.Proofs.Ytflkbabhbnmajaa

/- More laws about configs, plainly: the present tenants, the spots of two tenants, projections, encodings. No program in sight. -/
namespace Go.Proofs.Ytflkbabhbnmajaa
set_option linter.unusedSimpArgs false
set_option linter.unusedVariables false
namespace Cf
open Go
section
variable {g : C} {k : Nat}
theorem pres_ok (h : check g = 0) (hk : k < g.ts.length) : presence g k = (present g.ts k, 0) := by
  unfold presence; rw [if_pos h, if_neg (by omega)]
theorem teamsOk_of (h : check g = 0) : teamsOk g = true := (check_zero h).2.2.1
theorem team_at (h : check g = 0) (hk : k < g.ts.length) : absent (g.ts.getD k T.z) = true ∨ validTeam g.l k (g.ts.getD k T.z) = true := by
  have := (teamsOk_iff.1 (teamsOk_of h)).2.1 k hk
  unfold teamOk at this
  rwa [Bool.or_eq_true] at this
theorem team_ok (h : check g = 0) (hk : k < g.ts.length) : checkTeam g.a g.b g.l k (g.ts.getD k T.z) = 0 := by
  have hl := teams_len (teamsOk_of h)
  rw [checkTeam_if (check_zero h).1 (Fl.inB_iff.2 (by omega)), if_pos]
  rw [Bool.or_eq_true]
  exact team_at h hk
theorem priv_two (h : check g = 0) (hk : k < g.ts.length) : (Fl.priv g.a g.b g.l k).2 = 0 := by
  have hl := teams_len (teamsOk_of h)
  unfold Fl.priv; rw [if_pos (check_zero h).1, if_pos (Fl.inB_iff.2 (by omega))]
theorem priv_none (h : check g = 0) (hk : k < g.ts.length) (hp : present g.ts k = false) : (Fl.priv g.a g.b g.l k).1 = [] := by
  have hl := teams_len (teamsOk_of h)
  have hv := (check_zero h).1
  refine List.eq_nil_iff_forall_not_mem.2 fun p hm => ?_
  have h1 := (priv_mem hv (Fl.inB_iff.2 (show (0 : Int) ≤ k ∧ (k : Int) < 3 by omega)) p).symm.trans (decide_eq_true hm)
  unfold ownAt Fl.own at h1
  simp only [Bool.and_eq_true, decide_eq_true_eq] at h1
  have h2 := List.all_eq_true.1 (teamsOk_iff.1 (teamsOk_of h)).2.2.1.1 _ (Fl.getD_mem (l := g.l) (j := p.toNat) (by omega))
  unfold belongs at h2
  rw [decide_eq_false (by omega), decide_eq_false (by omega), show (((g.l.getD p.toNat 0).toNat : Int) - 1) = (k : Int) by omega, hp] at h2
  cases h2
theorem slice_who (h : check g = 0) (hk : k < g.s.length) : Fl.sliceOwner g.s k = (((g.s.getD k 0).toNat : Int) - 1, 0) := Fl.owner_at (check_zero h).2.1 hk
theorem slice_pres (h : check g = 0) (hk : k < g.s.length) (h0 : 0 ≤ ((g.s.getD k 0).toNat : Int) - 1) : present g.ts (((g.s.getD k 0).toNat : Int) - 1) = true := by
  have h2 := List.all_eq_true.1 (teamsOk_iff.1 (teamsOk_of h)).2.2.1.2 _ (Fl.getD_mem (l := g.s) (j := k) hk)
  have h3 := Fl.code_le (check_zero h).2.1 hk
  unfold belongs at h2
  rw [decide_eq_false (by omega), decide_eq_false (by omega)] at h2
  exact h2
theorem tenants_add (ts : List T) (k : Nat) : ∀ j, ∃ r, tenants ts (k + j) = tenants ts k ++ r := by
  intro j
  induction j with
  | zero => exact ⟨[], by simp⟩
  | succ j ih =>
    obtain ⟨r, hr⟩ := ih
    cases hp : present ts ((k + j : Nat) : Int) with
    | true => exact ⟨r ++ [((k + j : Nat) : Int)], by rw [← Nat.add_assoc, tenants_yes hp, hr, List.append_assoc]⟩
    | false => exact ⟨r, by rw [← Nat.add_assoc, tenants_no hp, hr]⟩
theorem tenants_at {ts : List T} (hk : k < ts.length) (hp : present ts k = true) : (tenants ts k).length < (tenants ts ts.length).length ∧ (tenants ts ts.length).getD (tenants ts k).length 0 = k := by
  obtain ⟨r, hr⟩ := tenants_add ts (k + 1) (ts.length - (k + 1))
  rw [show k + 1 + (ts.length - (k + 1)) = ts.length by omega, tenants_yes hp] at hr
  rw [hr]
  refine ⟨by simp only [List.length_append, List.length_cons]; omega, ?_⟩
  rw [List.getD_eq_getElem?_getD, List.append_assoc, List.getElem?_append_right (Nat.le_refl _), Nat.sub_self]
  rfl
theorem tenants_pos (h : check g = 0) : 1 ≤ (tenants g.ts g.ts.length).length := by
  have h1 := (teamsOk_iff.1 (teamsOk_of h)).2.2.2
  rw [any_tenants, Bool.not_eq_true', decide_eq_false_iff_not] at h1
  omega
theorem tenants_ok (h : check g = 0) : tenantsR g = (tenants g.ts g.ts.length, 0) := if_pos h
theorem bad_tenants (h : ¬ check g = 0) : tenantsR g = ([], check g) := if_neg h
theorem bad_pres {t : Int} (h : ¬ check g = 0) : presence g t = (false, check g) := if_neg h
theorem bad_only {t : Int} (h : ¬ check g = 0) : onlyR g t = (zero, check g) := if_neg h
theorem bad_enc (h : ¬ check g = 0) : encR g = ([], check g) := if_neg h
end
/-! ### The spots of valid teams -/
section
variable {a b : Int} {l : List UInt8} {t : Int} {m : T}
theorem ct_valid (h : checkTeam a b l t m = 0) (ha : absent m = false) : Fl.validF a b l = true ∧ (0 ≤ t ∧ t < 3) ∧ validTeam l t m = true := by
  unfold checkTeam at h
  split at h
  · rename_i hv
    split at h
    · rename_i ht
      rw [ha, Bool.false_or] at h
      split at h
      · rename_i hm; exact ⟨hv, Fl.inB_iff.1 ht, hm⟩
      · cases h
    · cases h
  · cases h
theorem ct_own' (h : checkTeam a b l t m = 0) {p : Int} (hp : p ∈ spots m) : ownAt l t p = true := by
  cases ha : absent m with
  | true => exact absurd hp (absent_spots ha p)
  | false => exact valid_at (ct_valid h ha).2.2 hp
theorem valid_small (h : validTeam l t m = true) : small m ∧ 3 ≤ (spots m).length := by
  unfold validTeam at h
  simp only [Bool.and_eq_true] at h
  have := numbers_len h.1.1
  exact ⟨⟨this.1.2, this.2.1.2, this.2.2.2⟩, by rw [spots_len]; omega⟩
theorem ct_small (h : checkTeam a b l t m = 0) : small m := by
  cases ha : absent m with
  | true =>
    have : m = T.z := of_decide_eq_true ha
    subst this
    exact ⟨by simp [T.z], by simp [T.z], by simp [T.z]⟩
  | false => exact (valid_small (ct_valid h ha).2.2).1
theorem valid_nodup (h : validTeam l t m = true) : (spots m).Nodup := by
  unfold validTeam at h
  simp only [Bool.and_eq_true, decide_eq_true_eq] at h
  exact h.2
theorem nodup_at {l : List Int} (h : l.Nodup) {i j : Nat} (hj : j < i) (hi : i < l.length) : ¬ l.getD j 0 = l.getD i 0 := by
  rw [List.getD_eq_getElem?_getD, List.getD_eq_getElem?_getD, List.getElem?_eq_getElem hi, List.getElem?_eq_getElem (show j < l.length by omega)]
  have := (List.pairwise_iff_getElem.1 h) j i (by omega) hi hj
  simpa using this
theorem own_at {p : Int} (hv : Fl.validF a b l = true) (ht : 0 ≤ t ∧ t < 3) : ownAt l t p = true ↔ Fl.owner a b l p = (t, 0) := by
  have hl := (Fl.validF_iff.1 hv).1
  unfold ownAt Fl.owner
  rw [if_pos hv]
  cases hp : Fl.has a b p with
  | true =>
    have h1 := Fl.has_lt hv hp
    rw [decide_eq_true h1.1, decide_eq_true h1.2.1, if_pos rfl, Fl.own_iff ht (Fl.okc_at hv h1.2.2)]
    simp
  | false =>
    rw [if_neg (by simp)]
    have : ¬ (0 ≤ p ∧ p < l.length) := fun hh => by
      have : Fl.has a b p = true := Fl.has_iff.2 ⟨Fl.valid_iff.1 hl.1, hh.1, by omega⟩
      rw [hp] at this; cases this
    rw [← Bool.decide_and, decide_eq_false this]
    constructor
    · intro h; cases h
    · intro h; have := congrArg Prod.snd h; cases this
theorem own_two {u : Int} {p : Int} (h : ownAt l t p = true) (h2 : ownAt l u p = true) : t = u := by
  unfold ownAt Fl.own at h h2
  simp only [Bool.and_eq_true, decide_eq_true_eq] at h h2
  omega
end
/-! ### One spot replaced -/
def repl (m : T) (i : Nat) (p : Int) : T := if i < m.h.length then ⟨m.h.set i p, m.p, m.d, m.n1, m.n2, m.n3, m.n4, m.n5⟩
  else if i - m.h.length < m.p.length then ⟨m.h, m.p.set (i - m.h.length) p, m.d, m.n1, m.n2, m.n3, m.n4, m.n5⟩
  else ⟨m.h, m.p, m.d.set (i - m.h.length - m.p.length) p, m.n1, m.n2, m.n3, m.n4, m.n5⟩
theorem spots_repl (m : T) (i : Nat) (p : Int) : spots (repl m i p) = (spots m).set i p := by
  unfold repl spots
  by_cases h1 : i < m.h.length
  · rw [if_pos h1]
    show m.h.set i p ++ m.p ++ m.d = _
    rw [List.set_append_left _ _ (by rw [List.length_append]; omega), List.set_append_left _ _ h1]
  · rw [if_neg h1]
    by_cases h2 : i - m.h.length < m.p.length
    · rw [if_pos h2]
      show m.h ++ m.p.set (i - m.h.length) p ++ m.d = _
      rw [List.set_append_left _ _ (by rw [List.length_append]; omega), List.set_append_right _ _ (by omega)]
    · rw [if_neg h2]
      show m.h ++ m.p ++ m.d.set (i - m.h.length - m.p.length) p = _
      rw [List.set_append_right _ _ (by rw [List.length_append]; omega), List.length_append]
      congr 2
      omega
theorem repl_lens (m : T) (i : Nat) (p : Int) : (repl m i p).h.length = m.h.length ∧ (repl m i p).p.length = m.p.length ∧ (repl m i p).d.length = m.d.length ∧ nums (repl m i p) = nums m := by
  unfold repl
  split
  · exact ⟨List.length_set, rfl, rfl, rfl⟩
  · split
    · exact ⟨rfl, List.length_set, rfl, rfl⟩
    · exact ⟨rfl, rfl, List.length_set, rfl⟩
theorem i64s_set {l : List Int} {i : Nat} {p : Int} (h : i64s l) (hp : i64 p) : i64s (l.set i p) := fun n hn => by
  rcases List.mem_or_eq_of_mem_set hn with h1 | rfl
  · exact h n h1
  · exact hp
theorem fit_repl {m : T} {i : Nat} {p : Int} (h : m.fit) (hp : i64 p) : (repl m i p).fit := by
  unfold repl
  split
  · exact ⟨by simpa using h.h, h.p, h.d, i64s_set h.hs hp, h.ps, h.ds, h.n1, h.n2, h.n3, h.n4, h.n5⟩
  · split
    · exact ⟨h.h, by simpa using h.p, h.d, h.hs, i64s_set h.ps hp, h.ds, h.n1, h.n2, h.n3, h.n4, h.n5⟩
    · exact ⟨h.h, h.p, by simpa using h.d, h.hs, h.ps, i64s_set h.ds hp, h.n1, h.n2, h.n3, h.n4, h.n5⟩
def oth (l : List Int) (ix p : Int) (k : Nat) : Bool := (List.range k).all fun j => decide ((j : Int) = ix) || !decide (l.getD j 0 = p)
theorem oth_succ (l : List Int) (ix p : Int) (k : Nat) : oth l ix p (k + 1) = (oth l ix p k && (decide ((k : Int) = ix) || !decide (l.getD k 0 = p))) := by
  unfold oth
  rw [List.range_succ, List.all_append]
  simp
theorem set_nodup {l : List Int} {i : Nat} {p : Int} (h : l.Nodup) (hi : i < l.length) : decide (l.set i p).Nodup = oth l i p l.length := by
  rw [Bool.eq_iff_iff, decide_eq_true_eq]
  unfold oth
  rw [List.all_eq_true]
  simp only [List.mem_range, Bool.or_eq_true, decide_eq_true_eq, Bool.not_eq_true', decide_eq_false_iff_not]
  have hg : ∀ j, j < l.length → (l.set i p).getD j 0 = if i = j then p else l.getD j 0 := fun j hj => by
    rw [List.getD_eq_getElem?_getD, List.getElem?_set]
    split
    · rfl
    · rw [← List.getD_eq_getElem?_getD]
  constructor
  · intro hn j hj
    rcases Nat.lt_trichotomy j i with hlt | rfl | hlt
    · refine .inr fun e => nodup_at hn hlt (by rw [List.length_set]; exact hi) ?_
      rw [hg j hj, hg i hi, if_neg (by omega), if_pos rfl, e]
    · exact .inl rfl
    · refine .inr fun e => nodup_at hn hlt (by rw [List.length_set]; exact hj) ?_
      rw [hg i hi, hg j hj, if_pos rfl, if_neg (by omega), e]
  · intro hall
    refine List.pairwise_iff_getElem.2 fun a b ha hb hab => ?_
    rw [List.length_set] at ha hb
    have e1 : l[a] = l.getD a 0 := by simp [List.getD, ha]
    have e2 : l[b] = l.getD b 0 := by simp [List.getD, hb]
    rw [List.getElem_set, List.getElem_set, e1, e2]
    split
    · rename_i hia
      rw [if_neg (by omega)]
      rcases hall b hb with h1 | h1
      · omega
      · exact fun e => h1 e.symm
    · split
      · rcases hall a ha with h1 | h1
        · omega
        · exact h1
      · exact nodup_at h hab hb
theorem ct_repl {a b : Int} {l : List UInt8} {t : Int} {m : T} {i : Nat} {p : Int} (h : checkTeam a b l t m = 0) (hi : i < (spots m).length) :
    checkTeam a b l t (repl m i p) = if (ownAt l t p && oth (spots m) i p (spots m).length) = true then 0 else 70 := by
  have ha : absent m = false := by
    cases ha : absent m with
    | false => rfl
    | true =>
      have : m = T.z := of_decide_eq_true ha
      subst this
      simp [spots, T.z] at hi
  obtain ⟨hv, ht, hm⟩ := ct_valid h ha
  obtain ⟨e1, e2, e3, e4⟩ := repl_lens m i p
  have ha2 : absent (repl m i p) = false := by
    cases ha : absent (repl m i p) with
    | false => rfl
    | true =>
      have h0 : repl m i p = T.z := of_decide_eq_true ha
      have h1 := congrArg List.length (spots_repl m i p)
      rw [h0, List.length_set] at h1
      have h2 : (spots m).length = 0 := h1.symm
      omega
  rw [checkTeam_if hv (Fl.inB_iff.2 ht), ha2, Bool.false_or]
  have hvt : validTeam l t (repl m i p) = (ownAt l t p && oth (spots m) i p (spots m).length) := by
    have hm' := hm
    unfold validTeam at hm' ⊢
    simp only [Bool.and_eq_true] at hm'
    have en : numbers (repl m i p) = numbers m := by
      unfold nums at e4
      simp only [List.cons.injEq, and_true] at e4
      obtain ⟨n1, n2, n3, n4, n5⟩ := e4
      unfold numbers lims
      rw [e1, e2, e3, n1, n2, n3, n4, n5]
    rw [en, hm'.1.1, spots_repl, all_set hm'.1.2 hi, set_nodup (of_decide_eq_true hm'.2) hi, Bool.true_and]
  rw [hvt]
theorem own_d1 {a b : Int} {l : List UInt8} {t p : Int} (hv : Fl.validF a b l = true) (ht : 0 ≤ t ∧ t < 3) (h : (Fl.owner a b l p).2 = 0) : decide ((Fl.owner a b l p).1 = t) = ownAt l t p := by
  rw [Bool.eq_iff_iff, decide_eq_true_eq, own_at hv ht]
  constructor
  · intro e; rw [← e, ← h]
  · intro e; rw [e]
theorem own_d2 {a b : Int} {l : List UInt8} {t p : Int} (hv : Fl.validF a b l = true) (ht : 0 ≤ t ∧ t < 3) (h : ¬ (Fl.owner a b l p).2 = 0) : false = ownAt l t p := by
  cases ho : ownAt l t p with
  | false => rfl
  | true => rw [own_at hv ht] at ho; rw [ho] at h; exact absurd rfl h
theorem pairb {s t : Nat} {X X' : Int} {B B' : Bool} (h1 : X = X') (h2 : B = B') : [(s, Value.int .i64 X), (t, .bool B)] = [(s, .int .i64 X'), (t, .bool B')] := by rw [h1, h2]
theorem and_no {A B : Bool} (h : A = false ∨ B = false) : ¬ (A && B) = true := by rcases h with h | h <;> simp [h]
theorem and_yes {A B : Bool} (h : A = true ∧ B = true) : (A && B) = true := by simp [h]
section
variable {A : Bool} {l : List Int} {ix p : Int} {k : Nat}
theorem oth_stop (h : A = false ∨ oth l ix p k = false) : false = (A && oth l ix p (k + 1)) := by rw [oth_succ]; rcases h with h | h <;> simp [h]
theorem oth_yes (h : A = true ∧ oth l ix p k = true) (hk : (k : Int) = ix) : true = (A && oth l ix p (k + 1)) := by rw [oth_succ, h.1, h.2, decide_eq_true hk]; rfl
theorem oth_no (h : A = true ∧ oth l ix p k = true) (hk : ¬ (k : Int) = ix) : (!decide (l.getD k 0 = p)) = (A && oth l ix p (k + 1)) := by rw [oth_succ, h.1, h.2, decide_eq_false hk]; simp
end
theorem spots_ct {a b : Int} {l : List UInt8} {t : Int} {m : T} (h : checkTeam a b l t m = 0) (hi : 0 < (spots m).length) : Fl.validF a b l = true ∧ (0 ≤ t ∧ t < 3) ∧ small m := by
  have ha : absent m = false := by
    cases ha : absent m with
    | false => rfl
    | true =>
      have : m = T.z := of_decide_eq_true ha
      subst this
      simp [spots, T.z] at hi
  obtain ⟨hv, ht, hm⟩ := ct_valid h ha
  exact ⟨hv, ht, (valid_small hm).1⟩
end Cf
end Go.Proofs.Ytflkbabhbnmajaa

/- Projections, plainly: valid, of one tenant, their own projections. No program in sight. -/
namespace Go.Proofs.Ytflkbabhbnmajaa
set_option linter.unusedSimpArgs false
set_option linter.unusedVariables false
namespace Cf
open Go
theorem oc_nat (t : Int) (x : UInt8) : (oc t x).toNat = if (x.toNat : Int) = t + 1 ∨ (x.toNat : Int) = 255 then x.toNat else 0 := by unfold oc; split <;> rfl
theorem os_nat (t : Int) (x : UInt8) : (os t x).toNat = if (x.toNat : Int) = t + 1 then x.toNat else 0 := by unfold os; split <;> rfl
theorem oc_zero (t : Int) : oc t 0 = 0 := by unfold oc; split <;> rfl
theorem os_zero (t : Int) : os t 0 = 0 := by unfold os; split <;> rfl
theorem getD_map {f : UInt8 → UInt8} (h : f 0 = 0) (l : List UInt8) (i : Nat) : (l.map f).getD i 0 = f (l.getD i 0) := by
  rw [List.getD_eq_getElem?_getD, List.getD_eq_getElem?_getD, List.getElem?_map]
  cases l[i]? with
  | none => exact h.symm
  | some x => rfl
theorem okc_oc {t : Int} {x : UInt8} (h : Fl.okc x = true) : Fl.okc (oc t x) = true := by
  unfold oc
  split
  · exact h
  · rfl
theorem own_oc {t : Int} (ht : 0 ≤ t ∧ t < 3) (x : UInt8) : Fl.own t (oc t x) = Fl.own t x := by
  rw [own_dec ht, own_dec ht]
  refine decide_eq_decide.2 ?_
  rw [oc_nat]
  split
  · exact Iff.rfl
  · omega
theorem aisle_oc {t : Int} (ht : 0 ≤ t ∧ t < 3) (x : UInt8) : decide (Fl.ownerC (oc t x) = -2) = decide (Fl.ownerC x = -2) := by
  rw [← Fl.aisle_iff, ← Fl.aisle_iff]
  refine decide_eq_decide.2 ?_
  rw [oc_nat]
  split
  · exact Iff.rfl
  · omega
theorem oc_oc (t : Int) (x : UInt8) : oc t (oc t x) = oc t x := by
  apply UInt8.toNat_inj.1
  rw [oc_nat, oc_nat]
  split
  · rfl
  · split
    · omega
    · rfl
theorem os_os (t : Int) (x : UInt8) : os t (os t x) = os t x := by
  apply UInt8.toNat_inj.1
  rw [os_nat, os_nat]
  split
  · rfl
  · split
    · omega
    · rfl
theorem ownAt_map {l : List UInt8} {t : Int} (ht : 0 ≤ t ∧ t < 3) (p : Int) : ownAt (l.map (oc t)) t p = ownAt l t p := by
  unfold ownAt
  rw [List.length_map, getD_map (oc_zero t), own_oc ht]
theorem validTeam_map {l : List UInt8} {t : Int} {m : T} (ht : 0 ≤ t ∧ t < 3) : validTeam (l.map (oc t)) t m = validTeam l t m := by
  unfold validTeam
  rw [show ownAt (l.map (oc t)) t = ownAt l t from funext fun p => ownAt_map ht p]
theorem one_len (ts : List T) (t : Int) (k : Nat) : (oneTeam ts t k).length = k := by simp [oneTeam]
theorem one_getD {ts : List T} {t : Int} {k j : Nat} (hj : j < k) : (oneTeam ts t k).getD j T.z = if (j : Int) = t then ts.getD j T.z else T.z := by
  unfold oneTeam
  rw [List.getD_eq_getElem?_getD, List.getElem?_map, List.getElem?_range hj]
  rfl
theorem absent_z : absent T.z = true := decide_eq_true rfl
theorem one_present {ts : List T} {t u : Int} (h : present ts t = true) : present (oneTeam ts t ts.length) u = decide (u = t) := by
  have hb := present_b h
  unfold present at h ⊢
  simp only [Bool.and_eq_true, decide_eq_true_eq, Bool.not_eq_true'] at h
  rw [one_len]
  by_cases hu : 0 ≤ u ∧ u < ts.length
  · rw [decide_eq_true hu.1, decide_eq_true hu.2, one_getD (by omega)]
    by_cases he : u = t
    · subst he
      rw [if_pos (by omega), h.2, decide_eq_true rfl]; rfl
    · rw [if_neg (by omega), absent_z, decide_eq_false he]; rfl
  · rw [← Bool.decide_and, decide_eq_false hu, decide_eq_false (by omega)]; rfl
theorem one_tenants {ts : List T} {t : Int} (h : present ts t = true) : ∀ k, k ≤ ts.length → tenants (oneTeam ts t ts.length) k = if t < k then [t] else [] := by
  have hb := present_b h
  intro k
  induction k with
  | zero => intro _; rw [if_neg (by omega)]; rfl
  | succ k ih =>
    intro hk
    have hp := one_present (u := (k : Int)) h
    by_cases he : (k : Int) = t
    · rw [decide_eq_true he] at hp
      rw [tenants_yes hp, ih (by omega), if_neg (by omega), if_pos (by omega), he]; rfl
    · rw [decide_eq_false he] at hp
      rw [tenants_no hp, ih (by omega)]
      by_cases hl : t < k
      · rw [if_pos hl, if_pos (by omega)]
      · rw [if_neg hl, if_neg (by omega)]
section
variable {g : C} {t : Int}
theorem only_b (h : check g = 0) (hp : present g.ts t = true) : (0 ≤ t ∧ t < 3) ∧ t < g.ts.length := by
  have h1 := teams_len (teamsOk_of h)
  have h2 := present_b hp
  omega
theorem only_valid (h : check g = 0) (hp : present g.ts t = true) : Fl.validF (only g t).a (only g t).b (only g t).l = true := by
  have hv := Fl.validF_iff.1 (check_zero h).1
  refine Fl.validF_iff.2 ⟨⟨hv.1.1, by show ((g.l.map (oc t)).length : Int) = _; rw [List.length_map]; exact hv.1.2⟩, fun c hc => ?_⟩
  obtain ⟨x, hx, rfl⟩ := List.mem_map.1 hc
  exact okc_oc (hv.2 x hx)
theorem only_check (h : check g = 0) (hp : present g.ts t = true) : check (only g t) = 0 := by
  obtain ⟨h1, h2, h3, h4⟩ := check_zero h
  obtain ⟨hb, hlt⟩ := only_b h hp
  obtain ⟨q1, q2, ⟨q3, q4⟩, q5⟩ := teamsOk_iff.1 h3
  have hbel : ∀ v : UInt8, (v.toNat : Int) = 0 ∨ (v.toNat : Int) = 255 ∨ (v.toNat : Int) = t + 1 → belongs (oneTeam g.ts t g.ts.length) v = true := fun v hv => by
    rcases hv with hv | hv | hv
    · exact belongs_yes0 hv
    · exact belongs_yes255 hv
    · exact belongs_yes (by rw [one_present hp]; exact decide_eq_true (by omega))
  refine check_iff.2 ⟨only_valid h hp, ?_, ?_, h4⟩
  · obtain ⟨s1, s2⟩ := Fl.validS_iff.1 h2
    refine Fl.validS_iff.2 ⟨by show 1 ≤ (g.s.map (os t)).length ∧ (g.s.map (os t)).length ≤ 16; rw [List.length_map]; exact s1, fun c hc => ?_⟩
    obtain ⟨x, hx, rfl⟩ := List.mem_map.1 hc
    have := s2 x hx
    rw [os_nat]
    split <;> omega
  · refine teamsOk_iff.2 ⟨?_, fun j hj => ?_, ⟨?_, ?_⟩, ?_⟩
    · show 1 ≤ (oneTeam g.ts t g.ts.length).length ∧ (oneTeam g.ts t g.ts.length).length ≤ 3
      rw [one_len]; exact q1
    · have hj2 : j < g.ts.length := by
        have hj3 : j < (oneTeam g.ts t g.ts.length).length := hj
        rwa [one_len] at hj3
      unfold teamOk
      show (absent ((oneTeam g.ts t g.ts.length).getD j T.z) || validTeam (g.l.map (oc t)) j ((oneTeam g.ts t g.ts.length).getD j T.z)) = true
      rw [one_getD hj2]
      by_cases he : (j : Int) = t
      · rw [if_pos he, he, validTeam_map hb]
        have := q2 j hj2
        unfold teamOk at this
        rw [he] at this
        exact this
      · rw [if_neg he, absent_z]; rfl
    · refine List.all_eq_true.2 fun c hc => ?_
      obtain ⟨x, hx, rfl⟩ := List.mem_map.1 hc
      refine hbel _ ?_
      rw [oc_nat]
      split <;> omega
    · refine List.all_eq_true.2 fun c hc => ?_
      obtain ⟨x, hx, rfl⟩ := List.mem_map.1 hc
      refine hbel _ ?_
      rw [os_nat]
      split <;> omega
    · refine List.any_eq_true.2 ⟨t.toNat, List.mem_range.2 (by show t.toNat < (oneTeam g.ts t g.ts.length).length; rw [one_len]; omega), ?_⟩
      show (!absent ((oneTeam g.ts t g.ts.length).getD t.toNat T.z)) = true
      rw [one_getD (by omega), if_pos (by omega)]
      unfold present at hp
      simp only [Bool.and_eq_true] at hp
      exact hp.2
theorem only_tenants (h : check g = 0) (hp : present g.ts t = true) : tenantsR (only g t) = ([t], 0) := by
  have hb := only_b h hp
  rw [tenants_ok (only_check h hp)]
  show (tenants (oneTeam g.ts t g.ts.length) (oneTeam g.ts t g.ts.length).length, (0 : Int)) = _
  rw [one_len, one_tenants hp _ (Nat.le_refl _), if_pos hb.2]
theorem only_present (hp : present g.ts t = true) : present (only g t).ts t = true := by
  show present (oneTeam g.ts t g.ts.length) t = true
  rw [one_present hp]; exact decide_eq_true rfl
theorem only_only (h : check g = 0) (hp : present g.ts t = true) : only (only g t) t = only g t := by
  unfold only
  simp only [C.mk.injEq, List.map_map, true_and, and_true]
  refine ⟨List.map_congr_left fun x _ => oc_oc t x, List.map_congr_left fun x _ => os_os t x, ?_⟩
  rw [one_len]
  unfold oneTeam
  refine List.map_congr_left fun j hj => ?_
  by_cases he : (j : Int) = t
  · rw [if_pos he, if_pos he]
    have := one_getD (ts := g.ts) (t := t) (k := g.ts.length) (j := j) (List.mem_range.1 hj)
    unfold oneTeam at this
    rw [this, if_pos he]
  · rw [if_neg he, if_neg he]
theorem onlyR_only (h : check g = 0) (hp : present g.ts t = true) : onlyR (only g t) t = (only g t, 0) := by
  rw [onlyR_yes (only_check h hp) (only_present hp), only_only h hp]
theorem places_map {q : UInt8 → Bool} {l : List UInt8} (hq : ∀ j, j < l.length → q (oc t (l.getD j 0)) = q (l.getD j 0)) : Fl.places q (l.map (oc t)) (l.map (oc t)).length = Fl.places q l l.length := by
  unfold Fl.places
  rw [List.length_map]
  congr 1
  refine List.filter_congr fun p hp => ?_
  rw [getD_map (oc_zero t)]
  exact hq p (List.mem_range.1 hp)
theorem priv_only (h : check g = 0) (hp : present g.ts t = true) : Fl.priv (only g t).a (only g t).b (only g t).l t = Fl.priv g.a g.b g.l t := by
  have hb := (only_b h hp).1
  have hv := (check_zero h).1
  unfold Fl.priv
  rw [if_pos (only_valid h hp), if_pos hv]
  show (if Fl.inB t 3 then (Fl.places _ (g.l.map (oc t)) (g.l.map (oc t)).length, (0 : Int)) else _) = _
  rw [places_map (fun j hj => ?_)]
  have hc := Fl.okc_at hv hj
  rw [← Fl.own_iff hb (okc_oc hc), ← Fl.own_iff hb hc, own_oc hb]
theorem aisles_only (h : check g = 0) (hp : present g.ts t = true) : Fl.aisles (only g t).a (only g t).b (only g t).l = Fl.aisles g.a g.b g.l := by
  have hb := (only_b h hp).1
  have hv := (check_zero h).1
  unfold Fl.aisles
  rw [if_pos (only_valid h hp), if_pos hv]
  show (Fl.places _ (g.l.map (oc t)) (g.l.map (oc t)).length, (0 : Int)) = _
  rw [places_map (fun j hj => aisle_oc hb _)]
theorem aisles_err (h : check g = 0) : (Fl.aisles g.a g.b g.l).2 = 0 := by unfold Fl.aisles; rw [if_pos (check_zero h).1]
theorem priv_err (h : check g = 0) (hp : present g.ts t = true) : (Fl.priv g.a g.b g.l t).2 = 0 := by
  unfold Fl.priv; rw [if_pos (check_zero h).1, if_pos (Fl.inB_iff.2 (only_b h hp).1)]
theorem os_own (h0 : 0 ≤ t) (i : Nat) : ((((g.s.getD i 0).toNat : Int) - 1 = t) ↔ ((((only g t).s.getD i 0).toNat : Int) - 1 = t)) ∧ ((((only g t).s.getD i 0).toNat : Int) - 1 = t ∨ (((only g t).s.getD i 0).toNat : Int) - 1 = -1) := by
  show ((((g.s.getD i 0).toNat : Int) - 1 = t) ↔ ((((g.s.map (os t)).getD i 0).toNat : Int) - 1 = t)) ∧ ((((g.s.map (os t)).getD i 0).toNat : Int) - 1 = t ∨ (((g.s.map (os t)).getD i 0).toNat : Int) - 1 = -1)
  rw [getD_map (os_zero t), os_nat]
  split <;> omega
theorem only_err (h : ¬ check g = 0 ∨ present g.ts t = false) : ¬ (onlyR g t).2 = 0 := by
  unfold onlyR
  by_cases hc : check g = 0
  · rw [if_pos hc]
    rcases h with h | h
    · exact absurd hc h
    · rw [h]; simp
  · rw [if_neg hc]; exact hc
theorem only_team (h : check g = 0) (hp : present g.ts t = true) : (only g t).ts.getD t.toNat T.z = g.ts.getD t.toNat T.z := by
  have hb := only_b h hp
  show (oneTeam g.ts t g.ts.length).getD t.toNat T.z = _
  rw [one_getD (by omega), if_pos (by omega)]
end
end Cf
end Go.Proofs.Ytflkbabhbnmajaa

/- The plan of a leg, plainly: places and their neighbours, cells, allowed places, arrivals. No program in sight. -/
set_option linter.unusedSimpArgs false
set_option linter.unusedVariables false
namespace Go.Proofs.Ytflkbabhbnmajaa
namespace Rt
open Cf
/-- a place, and its neighbours in the first d directions. -/
def nearTo (a b p : Int) (d : Nat) : List Int := p :: (((List.range d).map fun (i : Nat) => Fl.mv a b p (i : Int)).filter fun q => decide (0 ≤ q))
def nearI (a b p : Int) : List Int := nearTo a b p 4
theorem near_first (a b p : Int) : nearI a b p = [] ++ p :: (((List.range 4).map fun (i : Nat) => Fl.mv a b p (i : Int)).filter fun q => decide (0 ≤ q)) := rfl
theorem near_zero (a b p : Int) : nearTo a b p 0 = [p] := rfl
theorem near_yes {a b p : Int} {d : Nat} (h : 0 ≤ Fl.mv a b p d) : nearTo a b p (d + 1) = nearTo a b p d ++ [Fl.mv a b p d] := by
  unfold nearTo
  rw [List.range_succ, List.map_append, List.filter_append, List.map_cons, List.map_nil, List.filter_cons, decide_eq_true h]
  rfl
theorem near_no {a b p : Int} {d : Nat} (h : Fl.mv a b p d < 0) : nearTo a b p (d + 1) = nearTo a b p d := by
  unfold nearTo
  rw [List.range_succ, List.map_append, List.filter_append, List.map_cons, List.map_nil, List.filter_cons, decide_eq_false (by omega)]
  simp
theorem near_more (a b p : Int) (d : Nat) : ∀ j, ∃ r, nearTo a b p (d + j) = nearTo a b p d ++ r := by
  intro j
  induction j with
  | zero => exact ⟨[], by simp⟩
  | succ j ih =>
    obtain ⟨r, hr⟩ := ih
    rcases Int.lt_or_le (Fl.mv a b p ((d + j : Nat) : Int)) 0 with h | h
    · exact ⟨r, by rw [← Nat.add_assoc, near_no h, hr]⟩
    · exact ⟨r ++ [Fl.mv a b p ((d + j : Nat) : Int)], by rw [← Nat.add_assoc, near_yes h, hr, List.append_assoc]⟩
theorem near_at {a b p : Int} {d : Nat} (hd : d < 4) (h : 0 ≤ Fl.mv a b p d) : ∃ r, nearI a b p = nearTo a b p d ++ Fl.mv a b p d :: r := by
  obtain ⟨r, hr⟩ := near_more a b p (d + 1) (4 - (d + 1))
  rw [show d + 1 + (4 - (d + 1)) = 4 by omega, near_yes h, List.append_assoc] at hr
  exact ⟨r, hr⟩
theorem near_mem {a b p q : Int} : q ∈ nearI a b p ↔ q = p ∨ ∃ d : Nat, d < 4 ∧ Fl.mv a b p d = q ∧ 0 ≤ q := by
  unfold nearI nearTo
  simp only [List.mem_cons, List.mem_filter, List.mem_map, List.mem_range, decide_eq_true_eq]
  constructor
  · rintro (h | ⟨⟨d, h1, h2⟩, h3⟩)
    · exact .inl h
    · exact .inr ⟨d, h1, h2, h3⟩
  · rintro (h | ⟨d, h1, h2, h3⟩)
    · exact .inl h
    · exact .inr ⟨⟨d, h1, h2⟩, h3⟩
theorem near_len (a b p : Int) (d : Nat) : (nearTo a b p d).length ≤ d + 1 := by
  unfold nearTo
  have := List.length_filter_le (fun q : Int => decide (0 ≤ q)) ((List.range d).map fun (i : Nat) => Fl.mv a b p (i : Int))
  simp only [List.length_map, List.length_range] at this
  simp only [List.length_cons]; omega
def sides (a b : Int) : Prop := 2 ≤ a ∧ a ≤ 8 ∧ 2 ≤ b ∧ b ≤ 8
theorem near_in {a b p q : Int} (hs : sides a b) (hp : 0 ≤ p ∧ p < a * b) (h : q ∈ nearI a b p) : 0 ≤ q ∧ q < a * b := by
  rcases near_mem.1 h with rfl | ⟨d, _, rfl, h3⟩
  · exact hp
  · exact ⟨h3, Fl.mv_ge hs h3⟩
theorem near_sym {a b p q : Int} (hs : sides a b) (hp : 0 ≤ p ∧ p < a * b) (h : q ∈ nearI a b p) : p ∈ nearI a b q := by
  have hq := near_in hs hp h
  rcases near_mem.1 h with rfl | ⟨d, h1, h2, h3⟩
  · exact h
  · have h4 := (Fl.dist_one hs hp hq).2 ⟨d, h1, h2⟩
    rw [Fl.dist_comm] at h4
    obtain ⟨e, h5, h6⟩ := (Fl.dist_one hs hq hp).1 h4
    exact near_mem.2 (.inr ⟨e, h5, h6, hp.1⟩)
/-! ### The plan of a leg -/
def team (g : C) (t : Int) : T := g.ts.getD t.toNat T.z
def mine (g : C) (t p : Int) : Bool := decide (owner g p = t)
def aisle (g : C) (p : Int) : Bool := decide (owner g p = -2)
def has (g : C) (t a b p : Int) : Bool := decide (p = a) || decide (p = b) || aisle g p || (mine g t p && !decide (p ∈ spots (team g t)))
def alw (g : C) (t a b tick p : Int) : Bool := has g t a b p && (mine g t p || (aisle g p && decide ((Fl.sliceOwner g.s tick).1 = t)))
def near (g : C) (p : Nat) : List Nat := (nearI g.a g.b p).map Int.toNat
def G (g : C) (t a b : Int) : Bf.G := ⟨g.l.length, g.s.length, fun p => has g t a b p, fun k p => alw g t a b (k : Int) (p : Int), near g, b.toNat⟩
structure Leg (g : C) (t a b : Int) : Prop where
  c : check g = 0
  p : present g.ts t = true
  ra : 0 ≤ a ∧ a < g.l.length
  rb : 0 ≤ b ∧ b < g.l.length
  ob : owner g b = t
  oa : owner g a = t ∨ owner g a = -2
theorem sides_of {g : C} (h : check g = 0) : sides g.a g.b := Fl.valid_iff.1 (Fl.validF_iff.1 (check_zero h).1).1.1
theorem len_of {g : C} (h : check g = 0) : (g.l.length : Int) = g.a * g.b := (Fl.validF_iff.1 (check_zero h).1).1.2
theorem len_le {g : C} (h : check g = 0) : g.l.length ≤ 64 := Fl.validF_len (check_zero h).1
theorem per_of {g : C} (h : check g = 0) : 1 ≤ g.s.length ∧ g.s.length ≤ 16 := (Fl.validS_iff.1 (check_zero h).2.1).1
theorem owner_off {g : C} (h : check g = 0) {p : Int} (hp : ¬ (0 ≤ p ∧ p < g.l.length)) : owner g p = -1 := by
  unfold owner Fl.owner
  have hs := sides_of h
  rw [if_pos (check_zero h).1, if_neg (c := Fl.has g.a g.b p = true) (fun hh => hp (by have := (Fl.has_iff.1 hh).2; have := len_of h; omega))]
  rfl
theorem owner_on {g : C} (h : check g = 0) {p : Int} (hp : 0 ≤ p ∧ p < g.l.length) : owner g p = Fl.ownerC (g.l.getD p.toNat 0) := by
  unfold owner Fl.owner
  rw [if_pos (check_zero h).1, if_pos (Fl.has_iff.2 ⟨sides_of h, by have := len_of h; omega⟩)]
  rfl
theorem pres_lt {ts : List T} {t : Int} (h : present ts t = true) : 0 ≤ t ∧ t < ts.length := by
  unfold present at h
  simp only [Bool.and_eq_true, decide_eq_true_eq] at h
  exact h.1
/-- legError finds nothing: it is a leg. -/
theorem leg_of {g : C} {t a b tick : Int} (h : legE g t a b tick = 0) : Leg g t a b ∧ tick ≤ 4611686018427389952 := by
  unfold legE at h
  split at h
  · rename_i h0
    split at h
    · rename_i h1
      unfold asked at h0
      split at h0
      · rename_i hc
        split at h0
        · rename_i hp
          have ht := pres_lt hp.1
          unfold onLeg at h1
          simp only [Bool.and_eq_true, Bool.or_eq_true, decide_eq_true_eq] at h1
          refine ⟨⟨hc, hp.1, ?_, ?_, h1.1, h1.2⟩, hp.2⟩
          · refine Decidable.byContradiction fun hn => ?_
            have := owner_off hc hn
            omega
          · refine Decidable.byContradiction fun hn => ?_
            have := owner_off hc hn
            omega
        · exact absurd h0 (by decide)
      · rename_i hc; exact absurd h0 hc
    · exact absurd h (by decide)
  · rename_i h0; exact absurd h h0
theorem leg_err {g : C} {t a b tick : Int} (h : Leg g t a b) (ht : tick ≤ 4611686018427389952) : legE g t a b tick = 0 := by
  unfold legE
  rw [if_pos (asked_ok h.c h.p ht), if_pos]
  unfold onLeg
  simp only [Bool.and_eq_true, Bool.or_eq_true, decide_eq_true_eq]
  exact ⟨h.ob, h.oa⟩
theorem Leg.ten {g : C} {t a b : Int} (h : Leg g t a b) : 0 ≤ t ∧ t < 3 ∧ t.toNat < g.ts.length := by
  have h1 := pres_lt h.p
  have h2 := teams_len (check_zero h.c).2.2.1
  omega
theorem Leg.valid {g : C} {t a b : Int} (h : Leg g t a b) : validTeam g.l t (team g t) = true := by
  have h1 := h.ten
  have h2 := team_at h.c h1.2.2
  have h3 := h.p
  unfold present at h3
  simp only [Bool.and_eq_true, Bool.not_eq_true'] at h3
  rcases h2 with h2 | h2
  · exact absurd h2 (by rw [show (g.ts.getD t.toNat T.z) = g.ts.getD t.toNat T.z from rfl, h3.2]; decide)
  · rw [Int.toNat_of_nonneg h1.1] at h2; exact h2
theorem Leg.spot {g : C} {t a b : Int} (h : Leg g t a b) {p : Int} (hp : p ∈ spots (team g t)) : (0 ≤ p ∧ p < g.l.length) ∧ owner g p = t := by
  have h1 := h.valid
  unfold validTeam at h1
  simp only [Bool.and_eq_true, List.all_eq_true] at h1
  have h2 := h1.1.2 p hp
  unfold ownAt at h2
  simp only [Bool.and_eq_true, decide_eq_true_eq] at h2
  refine ⟨h2.1, ?_⟩
  rw [owner_on h.c h2.1]
  have h3 := h.ten
  have h4 := Fl.okc_at (check_zero h.c).1 (j := p.toNat) (by omega)
  have h5 := h2.2
  rw [Fl.own_iff ⟨h3.1, h3.2.1⟩ h4] at h5
  exact of_decide_eq_true h5
theorem getD_mem {l : List Int} {i : Nat} (h : i < l.length) : l.getD i 0 ∈ l := by
  rw [List.getD_eq_getElem?_getD, List.getElem?_eq_getElem h, Option.getD_some]; exact List.getElem_mem _
theorem getD_memN {l : List Nat} {i : Nat} (h : i < l.length) : l.getD i 0 ∈ l := by
  rw [List.getD_eq_getElem?_getD, List.getElem?_eq_getElem h, Option.getD_some]; exact List.getElem_mem _
theorem near_pre {a b p : Int} {pre r : List Int} {x : Int} (h : nearI a b p = pre ++ x :: r) : pre.length ≤ 4 := by
  have h1 := near_len a b p 4
  have h2 := congrArg List.length h
  simp only [List.length_append, List.length_cons] at h2
  unfold nearI at h2
  omega
theorem G_near (g : C) (t a b : Int) (p : Nat) : ((G g t a b).nr p).length ≤ 5 := by
  have := near_len g.a g.b p 4
  show (near g p).length ≤ 5
  unfold near
  rw [List.length_map]
  exact this
theorem has_at {g : C} (h : check g = 0) {p : Nat} (hp : p < g.l.length) : Fl.has g.a g.b (p : Int) = true := Fl.has_iff.2 ⟨sides_of h, by have := len_of h; omega⟩
theorem spots_small {g : C} {t a b : Int} (h : Leg g t a b) : (spots (team g t)).length ≤ 9 := by
  have h1 := h.valid
  unfold validTeam at h1
  simp only [Bool.and_eq_true] at h1
  have h2 := numbers_len h1.1.1
  rw [spots_len]
  omega
theorem mem_near {g : C} {p q : Nat} : q ∈ near g p ↔ ((q : Int) ∈ nearI g.a g.b p) := by
  unfold near
  rw [List.mem_map]
  constructor
  · rintro ⟨x, h1, rfl⟩
    have : 0 ≤ x := by
      rcases near_mem.1 h1 with rfl | ⟨d, _, _, h3⟩ <;> omega
    rw [Int.toNat_of_nonneg this]; exact h1
  · intro h; exact ⟨q, h, by simp⟩
theorem G_ok {g : C} {t a b : Int} (h : Leg g t a b) : (G g t a b).ok where
  K0 := (per_of h.c).1
  nrlt := fun p q hp hq => by
    have h1 := near_in (sides_of h.c) (by have := len_of h.c; have : p < g.l.length := hp; omega) (mem_near.1 hq)
    have := len_of h.c
    show q < g.l.length
    omega
  sym := fun p q hp hq => mem_near.2 (near_sym (sides_of h.c) (by have := len_of h.c; have : p < g.l.length := hp; omega) (mem_near.1 hq))
  glt := by have := h.rb; show b.toNat < g.l.length; omega
  gal := fun k hk => by
    have hb : ((b.toNat : Nat) : Int) = b := Int.toNat_of_nonneg h.rb.1
    show alw g t a b (k : Int) ((b.toNat : Nat) : Int) = true
    rw [hb]
    unfold alw has mine
    rw [decide_eq_true h.ob, decide_eq_true (rfl : b = b)]
    simp
  alc := fun k p hk => by
    have : alw g t a b (k : Int) (p : Int) = true := hk
    unfold alw at this
    exact (Bool.and_eq_true _ _ ▸ this).1
theorem nn_near (g : C) (p : Nat) : (near g p).map (fun (q : Nat) => (q : Int)) = nearI g.a g.b p := by
  unfold near
  rw [List.map_map]
  conv => rhs; rw [← List.map_id (nearI g.a g.b p)]
  apply List.map_congr_left
  intro q hq
  have : 0 ≤ q := by
    rcases near_mem.1 hq with rfl | ⟨d, _, _, h3⟩ <;> omega
  simp [Int.toNat_of_nonneg this]
end Rt
end Go.Proofs.Ytflkbabhbnmajaa

/- Walks (printed by gen.py). -/
namespace Go.Proofs.Ytflkbabhbnmajaa
open Go Go.RowKit
set_option linter.unusedSimpArgs false
set_option linter.unusedVariables false

set_option maxRecDepth 100000 in
theorem Ar_ok (a b : Int) (A : Option Addr) (c : Nat) (l : List UInt8) (p : Int) (w0 : World) :
    Calls Try.prog 101 #[.agg #[.int .i64 a, .int .i64 b, .slice A l.length c], .int .i64 p] w0 (E.Post w0 (E.Old w0) fun v Hn => ∃ Bp Bf, v = .func (.func 126) #[] #[.pointer (some ⟨Bp, 0, none⟩), .pointer (some ⟨Bf, 0, none⟩)] ∧ Hn = [E.HP.blk Bp 3 [.int .i64 p], E.HP.blk Bf 24 [.int .i64 a, .int .i64 b, .slice A l.length c]]) := by
  refine E.calls_of (vs := [.agg #[.int .i64 a, .int .i64 b, .slice A l.length c], .int .i64 p]) (H := []) Try.func101 Try.ntmps101 rfl rfl (E.HA.start w0) ?_
  refine E.CW.seq ?_
  refine E.CW.region ?_
  refine E.OW.box rfl rfl rfl rfl rfl rfl (fun B1 => ?_)
  refine E.OW.box rfl rfl rfl rfl rfl rfl (fun B2 => ?_)
  refine E.OW.pure rfl rfl rfl (E.PV.assign rfl rfl) ?_
  refine E.OW.nil ?_
  refine E.then_n ?_
  refine E.CW.seq ?_
  refine E.CW.region ?_
  refine E.OW.pure rfl rfl rfl (E.PV.makeFunc (f := .func 126) (fs := []) (cs := [.tmp 3, .tmp 2]) rfl rfl rfl) ?_
  refine E.OW.pure rfl rfl rfl (E.PV.assign rfl rfl) ?_
  refine E.OW.nil ?_
  refine E.then_n ?_
  refine E.CW.ret ?_
  refine E.KR.one [0, 0] Try.results101 rfl rfl ?_
  exact ⟨_, _, rfl, rfl⟩

set_option maxRecDepth 100000 in
theorem ArI_ok (a b p : Int) (Z : Value) (Bp Bf L : Nat) (q : List Int → E.HP) (S : Nat → Prop) (w0 : World) (hhas : Fl.has a b p = true) (hY : E.YF Try.prog L q (Rt.nearI a b p)) (hS : (q []).sem S w0) (hb : ∀ k, S k → k < w0.heap.size) (hp : E.Rd w0 (E.Fm w0 S) (some ⟨Bp, 0, none⟩) [.int .i64 p]) (hf : E.Rd w0 (E.Fm w0 S) (some ⟨Bf, 0, none⟩) [.int .i64 a, .int .i64 b, Z]) :
    Calls Try.prog 126 #[.func (.yield L) #[] #[], .pointer (some ⟨Bp, 0, none⟩), .pointer (some ⟨Bf, 0, none⟩)] w0 (E.Post w0 (E.Fm w0 S) fun v Hn => Hn = [q (Rt.nearI a b p)]) := by
  refine E.calls_of (vs := [.func (.yield L) #[] #[], .pointer (some ⟨Bp, 0, none⟩), .pointer (some ⟨Bf, 0, none⟩)]) (H := [q []]) Try.func126 Try.ntmps126 rfl rfl (E.HA.startM hS hb) ?_
  refine E.CW.seq ?_
  refine E.CW.seq ?_
  refine E.CW.region ?_
  refine E.OW.pure rfl rfl rfl (E.PV.move rfl rfl) ?_
  refine E.OW.pure rfl rfl rfl (E.PV.load_at (E.rdc hp) na3 rfl rfl rfl) ?_
  refine E.OW.yield rfl rfl rfl rfl rfl rfl hY 0 rfl (Rt.near_first a b p) ?_
  refine E.OW.pure rfl rfl rfl (E.PV.not rfl rfl) ?_
  refine E.OW.nil ?_
  refine E.then_n ?_
  refine E.CW.cond rfl (fun hc => ?_) (fun hc => ?_)
  · (cases hc; done)
  · simp only [E.b0, E.b1, E.b2, E.b3, E.b4, E.b5, E.b6, E.b7, E.b8, E.b9, E.b10, E.b11, E.b12, E.b13, E.b14, E.b15, E.b16, E.b17, E.b18, E.b19, E.b20, reduceCtorEq] at hc
    all_goals (
      refine E.CW.skip ?_
      refine E.then_n ?_
      refine E.CW.seq ?_
      refine E.CW.region ?_
      refine E.OW.pure rfl rfl rfl (E.PV.assign rfl rfl) ?_
      refine E.OW.nil ?_
      refine E.then_n ?_
      refine E.CW.block ?_
      refine E.CW.loopk [0, 1, 2] 1 rfl rfl (fun mm mods Hm => ∃ d : Nat, mm = 4 - d ∧ mods = [(4, .int .i64 d)] ∧ Hm = [q (Rt.nearTo a b p d)] ∧ d ≤ 4) (4) ?_ ?_
      · exact ⟨[(4, _)], (by repeat (first | exact E.cov_nil | refine ⟨rfl, ?_⟩)), 0, rfl, rfl, rfl, by omega⟩
      · rintro _ _ _ ⟨d, rfl, rfl, rfl, hd⟩
        refine E.CW.seq ?_
        refine E.CW.seq ?_
        refine E.CW.region ?_
        refine E.OW.pure rfl rfl rfl (E.PV.move rfl rfl) ?_
        refine E.OW.pure rfl rfl rfl (E.PV.leq rfl rfl rfl) ?_
        refine E.OW.nil ?_
        refine E.then_n ?_
        refine E.CW.cond rfl (fun hc => ?_) (fun hc => ?_)
        · simp only [E.b0, E.b1, E.b2, E.b3, E.b4, E.b5, E.b6, E.b7, E.b8, E.b9, E.b10, E.b11, E.b12, E.b13, E.b14, E.b15, E.b16, E.b17, E.b18, E.b19, E.b20, reduceCtorEq] at hc
          all_goals (
            refine E.CW.skip ?_
            refine E.then_n ?_
            refine E.CW.seq ?_
            refine E.CW.block ?_
            refine E.CW.seq ?_
            rcases Fl.step_two (p := p) hhas (show 0 ≤ (d : Int) ∧ (d : Int) < 4 by omega) with ⟨hm, hst⟩ | ⟨hm, hst⟩
            · skip
              refine E.CW.region ?_
              refine E.OW.pure rfl rfl rfl (E.PV.fieldAddr fa24_0 rfl rfl) ?_
              refine E.OW.pure rfl rfl rfl (E.PV.load_at (E.rdc hf) na3 rfl rfl rfl) ?_
              refine E.OW.pure rfl rfl rfl (E.PV.fieldAddr fa24_1 rfl rfl) ?_
              refine E.OW.pure rfl rfl rfl (E.PV.load_at (E.rdc hf) na3 rfl rfl rfl) ?_
              refine E.OW.pure rfl rfl rfl (E.PV.load_at (E.rdc hp) na3 rfl rfl rfl) ?_
              refine E.OW.pure rfl rfl rfl (E.PV.move rfl rfl) ?_
              (refine E.OW.call nm127 rfl rfl rfl rfl rfl rfl _ (fun w hw => Step_ok _ _ _ _ w) ?_; rintro _ _ ⟨rfl, rfl⟩)
              refine E.OW.pure rfl rfl rfl (E.PV.move rfl rfl) ?_
              refine E.OW.pure rfl rfl rfl (E.PV.extract rfl rfl rfl) ?_
              refine E.OW.pure rfl rfl rfl (E.PV.extract rfl rfl rfl) ?_
              refine E.OW.pure rfl rfl rfl (E.PV.assign rfl rfl) ?_
              refine E.OW.pure rfl rfl rfl (E.PV.assign rfl rfl) ?_
              refine E.OW.nil ?_
              refine E.then_n ?_
              refine E.CW.seq ?_
              try (have hm2 : 0 ≤ Fl.mv a b p d := hm; obtain ⟨r, hr⟩ := Rt.near_at (show d < 4 by omega) hm2; rw [show Fl.mv a b p d = (Fl.step a b p d).1 from by rw [hst]] at hr)
              refine E.CW.region ?_
              refine E.OW.pure rfl rfl rfl (E.PV.move rfl rfl) ?_
              refine E.OW.pure rfl rfl rfl (E.PV.eql rfl rfl rfl) ?_
              refine E.OW.pure rfl rfl rfl (E.PV.move rfl rfl) ?_
              all_goals (refine E.OW.put 27 (.bool true) rfl (congrArg Value.bool ?_) ?_; (focus (rw [hst]; rfl)))
              all_goals (refine E.OW.pure rfl rfl rfl (E.PV.move rfl rfl) ?_)
              all_goals (refine E.OW.pure rfl rfl rfl (E.PV.move rfl rfl) ?_)
              all_goals (refine E.OW.yield rfl rfl rfl rfl rfl rfl hY 0 rfl hr ?_)
              all_goals (refine E.OW.pure rfl rfl rfl (E.PV.not rfl rfl) ?_)
              all_goals (refine E.OW.pure rfl rfl rfl (E.PV.pick_t rfl rfl rfl) ?_)
              all_goals (
                refine E.OW.nil ?_
                refine E.then_n ?_
                refine E.CW.cond rfl (fun hc => ?_) (fun hc => ?_)
                · (cases hc; done)
                · simp only [E.b0, E.b1, E.b2, E.b3, E.b4, E.b5, E.b6, E.b7, E.b8, E.b9, E.b10, E.b11, E.b12, E.b13, E.b14, E.b15, E.b16, E.b17, E.b18, E.b19, E.b20, reduceCtorEq] at hc
                  all_goals (
                    refine E.CW.skip ?_
                    refine E.blk_n ?_
                    refine E.then_n ?_
                    refine E.CW.region ?_
                    refine E.OW.pure rfl rfl rfl (E.PV.move rfl rfl) ?_
                    refine E.OW.pure rfl rfl rfl (E.PV.add_i64 rfl rfl rfl ?_) ?_; (focus (omega))
                    refine E.OW.pure rfl rfl rfl (E.PV.assign rfl rfl) ?_
                    refine E.OW.nil ?_
                    refine E.then_nf ?_
                    refine ⟨_, [(4, _)], [0], [_], ?_, by repeat (first | exact E.cov_nil | refine ⟨rfl, ?_⟩), rfl, d + 1, rfl, rfl, (by first | (have hm2 : 0 ≤ Fl.mv a b p d := hm; rw [Rt.near_yes hm2, hst]) | (have hm2 : Fl.mv a b p d < 0 := hm; rw [Rt.near_no hm2])), by omega⟩
                    omega))
            · skip
              refine E.CW.region ?_
              refine E.OW.pure rfl rfl rfl (E.PV.fieldAddr fa24_0 rfl rfl) ?_
              refine E.OW.pure rfl rfl rfl (E.PV.load_at (E.rdc hf) na3 rfl rfl rfl) ?_
              refine E.OW.pure rfl rfl rfl (E.PV.fieldAddr fa24_1 rfl rfl) ?_
              refine E.OW.pure rfl rfl rfl (E.PV.load_at (E.rdc hf) na3 rfl rfl rfl) ?_
              refine E.OW.pure rfl rfl rfl (E.PV.load_at (E.rdc hp) na3 rfl rfl rfl) ?_
              refine E.OW.pure rfl rfl rfl (E.PV.move rfl rfl) ?_
              (refine E.OW.call nm127 rfl rfl rfl rfl rfl rfl _ (fun w hw => Step_ok _ _ _ _ w) ?_; rintro _ _ ⟨rfl, rfl⟩)
              refine E.OW.pure rfl rfl rfl (E.PV.move rfl rfl) ?_
              refine E.OW.pure rfl rfl rfl (E.PV.extract rfl rfl rfl) ?_
              refine E.OW.pure rfl rfl rfl (E.PV.extract rfl rfl rfl) ?_
              refine E.OW.pure rfl rfl rfl (E.PV.assign rfl rfl) ?_
              refine E.OW.pure rfl rfl rfl (E.PV.assign rfl rfl) ?_
              refine E.OW.nil ?_
              refine E.then_n ?_
              refine E.CW.seq ?_
              try (have hm2 : 0 ≤ Fl.mv a b p d := hm; obtain ⟨r, hr⟩ := Rt.near_at (show d < 4 by omega) hm2; rw [show Fl.mv a b p d = (Fl.step a b p d).1 from by rw [hst]] at hr)
              refine E.CW.region ?_
              refine E.OW.pure rfl rfl rfl (E.PV.move rfl rfl) ?_
              refine E.OW.pure rfl rfl rfl (E.PV.eql rfl rfl rfl) ?_
              refine E.OW.pure rfl rfl rfl (E.PV.move rfl rfl) ?_
              all_goals (refine E.OW.put 27 (.bool false) rfl (congrArg Value.bool ?_) ?_; (focus (rw [hst]; rfl)))
              all_goals (refine E.OW.off rfl rfl rfl ?_)
              all_goals (refine E.OW.off rfl rfl rfl ?_)
              all_goals (refine E.OW.off rfl rfl rfl ?_)
              all_goals (refine E.OW.off rfl rfl rfl ?_)
              all_goals (refine E.OW.pure rfl rfl rfl (E.PV.pick_f rfl rfl rfl) ?_)
              all_goals (
                refine E.OW.nil ?_
                refine E.then_n ?_
                refine E.CW.cond rfl (fun hc => ?_) (fun hc => ?_)
                · (cases hc; done)
                · simp only [E.b0, E.b1, E.b2, E.b3, E.b4, E.b5, E.b6, E.b7, E.b8, E.b9, E.b10, E.b11, E.b12, E.b13, E.b14, E.b15, E.b16, E.b17, E.b18, E.b19, E.b20, reduceCtorEq] at hc
                  all_goals (
                    refine E.CW.skip ?_
                    refine E.blk_n ?_
                    refine E.then_n ?_
                    refine E.CW.region ?_
                    refine E.OW.pure rfl rfl rfl (E.PV.move rfl rfl) ?_
                    refine E.OW.pure rfl rfl rfl (E.PV.add_i64 rfl rfl rfl ?_) ?_; (focus (omega))
                    refine E.OW.pure rfl rfl rfl (E.PV.assign rfl rfl) ?_
                    refine E.OW.nil ?_
                    refine E.then_nf ?_
                    refine ⟨_, [(4, _)], [0], [_], ?_, by repeat (first | exact E.cov_nil | refine ⟨rfl, ?_⟩), rfl, d + 1, rfl, rfl, (by first | (have hm2 : 0 ≤ Fl.mv a b p d := hm; rw [Rt.near_yes hm2, hst]) | (have hm2 : Fl.mv a b p d < 0 := hm; rw [Rt.near_no hm2])), by omega⟩
                    omega)))
        · simp only [E.b0, E.b1, E.b2, E.b3, E.b4, E.b5, E.b6, E.b7, E.b8, E.b9, E.b10, E.b11, E.b12, E.b13, E.b14, E.b15, E.b16, E.b17, E.b18, E.b19, E.b20, reduceCtorEq] at hc
          all_goals (
            refine E.CW.exit ?_
            refine E.then_x ?_
            refine E.then_x ?_
            refine E.blk_eq ?_
            refine (E.KR.zero [0] Try.results126 rfl ?_).1
            obtain rfl : d = 4 := by omega
            exact rfl))
end Go.Proofs.Ytflkbabhbnmajaa

/- Closed facts on the program (printed by gen.py). -/
namespace Go.Proofs.Ytflkbabhbnmajaa
open Go Go.RowKit
set_option linter.unusedSimpArgs false
set_option linter.unusedVariables false
theorem bsl149_1_0 (x0 : Int) (x1 : Int) (w : World) : (Instr.buildSlice 149 1 #[(0, .agg #[.int .i64 x0, .int .i64 x1])]).run Try.prog w = .ok (.slice (some ⟨w.heap.size, 0, none⟩) 1 1) (w.alloc (.cells #[.int .i64 x0, .int .i64 x1] 154)) := by kernel_rfl

theorem fa151_0 : E.FA Try.prog 151 0 0 := fun _ _ _ => by kernel_rfl

theorem fa151_1 : E.FA Try.prog 151 1 1 := fun _ _ _ => by kernel_rfl

theorem in149 : E.In Try.prog 149 (.slice none 0 0) 1 24 := by unfold E.In; kernel_rfl

theorem in154 : E.In Try.prog 154 (.agg #[.int .i64 0, .int .i64 0]) 2 16 := by unfold E.In; kernel_rfl

theorem is154 : E.Is Try.prog 154 2 := ⟨fun _ => by kernel_rfl, fun _ => by kernel_rfl⟩

theorem na149 : E.Na Try.prog 149 := fun _ => by kernel_rfl
end Go.Proofs.Ytflkbabhbnmajaa

/- Walks (printed by gen.py). -/
namespace Go.Proofs.Ytflkbabhbnmajaa
open Go Go.RowKit
set_option linter.unusedSimpArgs false
set_option linter.unusedVariables false

set_option maxRecDepth 100000 in
theorem push_ok (B : Nat) (q : List (Nat × Nat)) (h p k : Nat) (S : Nat → Prop) (w0 : World) (hS : (E.HP.que B q h).sem S w0) (hb : ∀ k, S k → k < w0.heap.size) (hq : q.length ≤ 2000) :
    Calls Try.prog 129 #[.pointer (some ⟨B, 0, none⟩), .agg #[.int .i64 (p : Int), .int .i64 (k : Int)]] w0 (E.Post w0 (E.Fm w0 S) fun v Hn => Hn = [E.HP.que B (q ++ [(p, k)]) (h)]) := by
  refine E.calls_of (vs := [.pointer (some ⟨B, 0, none⟩), .agg #[.int .i64 (p : Int), .int .i64 (k : Int)]]) (H := [E.HP.que B (q) (h)]) Try.func129 Try.ntmps129 rfl rfl (E.HA.startM hS hb) ?_
  refine E.CW.seq ?_
  refine E.CW.queout 0 rfl (fun AQ cQ => ?_)
  refine E.CW.region ?_
  refine E.OW.box rfl rfl rfl rfl rfl rfl (fun B1 => ?_)
  refine E.OW.nil ?_
  refine E.then_n ?_
  refine E.CW.drawx mixed [0] rfl ?_
  all_goals (refine E.AW.first 0 rfl (by kernel_rfl) (by kernel_rfl) (by kernel_rfl) rfl rfl rfl (E.PV.move rfl rfl) ?_)
  all_goals (refine E.AW.first 1 rfl (by kernel_rfl) (by kernel_rfl) (by kernel_rfl) rfl rfl rfl (E.PV.move rfl rfl) ?_)
  all_goals (refine E.AW.first 2 rfl (by kernel_rfl) (by kernel_rfl) (by kernel_rfl) rfl rfl rfl (E.PV.nilCheck rfl rfl) ?_)
  all_goals (refine E.AW.first 3 rfl (by kernel_rfl) (by kernel_rfl) (by kernel_rfl) rfl rfl rfl (E.PV.fieldAddr fa151_0 rfl rfl) ?_)
  all_goals (refine E.AW.first 5 rfl (by kernel_rfl) (by kernel_rfl) (by kernel_rfl) rfl rfl rfl (E.PV.loads (i := 0) is154 rfl rfl rfl rfl) ?_)
  all_goals (
    refine E.AW.two 4 6 (by kernel_rfl) rfl rfl ?ga1 ?gb1
    case' ga1 =>
        all_goals (refine E.OW.pure rfl rfl rfl (E.PV.load (i := 1) na149 rfl rfl rfl rfl) ?_)
        all_goals (first | (refine E.AW.nil [0] rfl ?_) | (refine E.AW.nil [1] rfl ?_) | (refine E.AW.nil [2] rfl ?_) | (refine E.AW.nil [3] rfl ?_) | (refine E.AW.nil [4] rfl ?_) | (refine E.AW.nil [5] rfl ?_) | (refine E.AW.nil [6] rfl ?_) | (refine E.AW.nil [0] rfl ?_) | (refine E.AW.nil [0] rfl ?_))
        all_goals (refine E.AW.one 6 (by kernel_rfl) rfl ?_)
        all_goals (refine E.OW.buildSlice (Et := 154) (sz := 2) (ps := [(0, .tmp 9)]) rfl rfl rfl rfl rfl (by simp) (by unfold maxLen; omega) (fun w => bsl149_1_0 _ _ w) (fun A2 => ?_))
        all_goals (first | (refine E.AW.nil [0] rfl ?_) | (refine E.AW.nil [1] rfl ?_) | (refine E.AW.nil [2] rfl ?_) | (refine E.AW.nil [3] rfl ?_) | (refine E.AW.nil [4] rfl ?_) | (refine E.AW.nil [5] rfl ?_) | (refine E.AW.nil [6] rfl ?_) | (refine E.AW.nil [0] rfl ?_) | (refine E.AW.nil [0] rfl ?_))
        all_goals (refine E.AW.one 7 (by kernel_rfl) rfl ?_)
        all_goals (refine E.OW.append (i := 3) Try.underlying149 in154 rfl rfl (by decide) rfl rfl rfl rfl rfl rfl rfl (E.rdr (i := 0) rfl) ?_ ?_ ?_ ?_ (fun A3 c3 => ?_); (focus ((first | rfl | (simp; done) | omega))); (focus ((first | exact E.ints_one | exact E.u8s_one | (simp [Value.oneCell']; done)))); (focus ((unfold maxLen; omega))); (focus ((first | omega | (simp only [List.length_append, List.length_cons, List.length_nil] at *; omega) | (unfold maxLen at *; omega)))))
        all_goals (first | (refine E.AW.nil [0] rfl ?_) | (refine E.AW.nil [1] rfl ?_) | (refine E.AW.nil [2] rfl ?_) | (refine E.AW.nil [3] rfl ?_) | (refine E.AW.nil [4] rfl ?_) | (refine E.AW.nil [5] rfl ?_) | (refine E.AW.nil [6] rfl ?_) | (refine E.AW.nil [0] rfl ?_) | (refine E.AW.nil [0] rfl ?_))
        all_goals (refine E.AW.first 8 rfl (by kernel_rfl) (by kernel_rfl) (by kernel_rfl) rfl rfl rfl (E.PV.nilCheck rfl rfl) ?_)
        all_goals (refine E.AW.first 9 rfl (by kernel_rfl) (by kernel_rfl) (by kernel_rfl) rfl rfl rfl (E.PV.fieldAddr fa151_0 rfl rfl) ?_)
        all_goals (refine E.AW.one 10 (by kernel_rfl) rfl ?_)
        all_goals (refine E.OW.store (i := 3) in149.size rfl rfl rfl rfl rfl rfl rfl rfl rfl ?_)
        all_goals (first | (refine E.AW.nil [0] rfl ?_) | (refine E.AW.nil [1] rfl ?_) | (refine E.AW.nil [2] rfl ?_) | (refine E.AW.nil [3] rfl ?_) | (refine E.AW.nil [4] rfl ?_) | (refine E.AW.nil [5] rfl ?_) | (refine E.AW.nil [6] rfl ?_) | (refine E.AW.nil [0] rfl ?_) | (refine E.AW.nil [0] rfl ?_))
        all_goals (refine E.AW.conv (E.cv_quein (q := q ++ [(p, k)]) 0 0 rfl rfl (by simp) (E.qI_snoc q p k).symm) ?_)
        all_goals (refine E.AW.done (by kernel_rfl) ?_)
    case' gb1 =>
        all_goals (refine E.OW.buildSlice (Et := 154) (sz := 2) (ps := [(0, .tmp 9)]) rfl rfl rfl rfl rfl (by simp) (by unfold maxLen; omega) (fun w => bsl149_1_0 _ _ w) (fun A4 => ?_))
        all_goals (first | (refine E.AW.nil [0] rfl ?_) | (refine E.AW.nil [1] rfl ?_) | (refine E.AW.nil [2] rfl ?_) | (refine E.AW.nil [3] rfl ?_) | (refine E.AW.nil [4] rfl ?_) | (refine E.AW.nil [5] rfl ?_) | (refine E.AW.nil [6] rfl ?_) | (refine E.AW.nil [0] rfl ?_) | (refine E.AW.nil [0] rfl ?_))
        all_goals (refine E.AW.one 4 (by kernel_rfl) rfl ?_)
        all_goals (refine E.OW.pure rfl rfl rfl (E.PV.load (i := 2) na149 rfl rfl rfl rfl) ?_)
        all_goals (first | (refine E.AW.nil [0] rfl ?_) | (refine E.AW.nil [1] rfl ?_) | (refine E.AW.nil [2] rfl ?_) | (refine E.AW.nil [3] rfl ?_) | (refine E.AW.nil [4] rfl ?_) | (refine E.AW.nil [5] rfl ?_) | (refine E.AW.nil [6] rfl ?_) | (refine E.AW.nil [0] rfl ?_) | (refine E.AW.nil [0] rfl ?_))
        all_goals (refine E.AW.one 7 (by kernel_rfl) rfl ?_)
        all_goals (refine E.OW.append (i := 3) Try.underlying149 in154 rfl rfl (by decide) rfl rfl rfl rfl rfl rfl rfl (E.rdr (i := 0) rfl) ?_ ?_ ?_ ?_ (fun A5 c5 => ?_); (focus ((first | rfl | (simp; done) | omega))); (focus ((first | exact E.ints_one | exact E.u8s_one | (simp [Value.oneCell']; done)))); (focus ((unfold maxLen; omega))); (focus ((first | omega | (simp only [List.length_append, List.length_cons, List.length_nil] at *; omega) | (unfold maxLen at *; omega)))))
        all_goals (first | (refine E.AW.nil [0] rfl ?_) | (refine E.AW.nil [1] rfl ?_) | (refine E.AW.nil [2] rfl ?_) | (refine E.AW.nil [3] rfl ?_) | (refine E.AW.nil [4] rfl ?_) | (refine E.AW.nil [5] rfl ?_) | (refine E.AW.nil [6] rfl ?_) | (refine E.AW.nil [0] rfl ?_) | (refine E.AW.nil [0] rfl ?_))
        all_goals (refine E.AW.first 8 rfl (by kernel_rfl) (by kernel_rfl) (by kernel_rfl) rfl rfl rfl (E.PV.nilCheck rfl rfl) ?_)
        all_goals (refine E.AW.first 9 rfl (by kernel_rfl) (by kernel_rfl) (by kernel_rfl) rfl rfl rfl (E.PV.fieldAddr fa151_0 rfl rfl) ?_)
        all_goals (refine E.AW.one 10 (by kernel_rfl) rfl ?_)
        all_goals (refine E.OW.store (i := 3) in149.size rfl rfl rfl rfl rfl rfl rfl rfl rfl ?_)
        all_goals (first | (refine E.AW.nil [0] rfl ?_) | (refine E.AW.nil [1] rfl ?_) | (refine E.AW.nil [2] rfl ?_) | (refine E.AW.nil [3] rfl ?_) | (refine E.AW.nil [4] rfl ?_) | (refine E.AW.nil [5] rfl ?_) | (refine E.AW.nil [6] rfl ?_) | (refine E.AW.nil [0] rfl ?_) | (refine E.AW.nil [0] rfl ?_))
        all_goals (refine E.AW.conv (E.cv_quein (q := q ++ [(p, k)]) 0 0 rfl rfl (by simp) (E.qI_snoc q p k).symm) ?_)
        all_goals (refine E.AW.done (by kernel_rfl) ?_))
  all_goals (
    skip
    refine (E.KR.zero [0] Try.results129 rfl ?_).1
    exact rfl)

set_option maxRecDepth 100000 in
theorem pop_ok (B : Nat) (q : List (Nat × Nat)) (h : Nat) (S : Nat → Prop) (w0 : World) (hS : (E.HP.que B q h).sem S w0) (hb : ∀ k, S k → k < w0.heap.size) (hq : q.length ≤ 2000) :
    Calls Try.prog 130 #[.pointer (some ⟨B, 0, none⟩)] w0 (E.Post w0 (E.Fm w0 S) fun v Hn => ∃ (b : Bool) (x1 x2 : Int) (h2 : Nat), v = .tuple #[.agg #[.int .i64 x1, .int .i64 x2], .bool b] ∧ Hn = [E.HP.que B (q) (h2)] ∧ ((b = true ∧ h < q.length ∧ x1 = ((Bf.at_ q h).1 : Int) ∧ x2 = ((Bf.at_ q h).2 : Int) ∧ h2 = h + 1) ∨ (b = false ∧ q.length ≤ h ∧ h2 = h))) := by
  have hqi := E.qI_length q
  refine E.calls_of (vs := [.pointer (some ⟨B, 0, none⟩)]) (H := [E.HP.que B (q) (h)]) Try.func130 Try.ntmps130 rfl rfl (E.HA.startM hS hb) ?_
  refine E.CW.seq ?_
  refine E.CW.queout 0 rfl (fun AQ cQ => ?_)
  refine E.CW.region ?_
  refine E.OW.alloc (in154.zr) rfl rfl rfl rfl rfl (fun B1 => ?_)
  refine E.OW.pure rfl rfl rfl (E.PV.assign rfl rfl) ?_
  refine E.OW.nil ?_
  refine E.then_n ?_
  refine E.CW.seq ?_
  refine E.CW.region ?_
  refine E.OW.alloc (in154.zr) rfl rfl rfl rfl rfl (fun B2 => ?_)
  refine E.OW.nil ?_
  refine E.then_n ?_
  refine E.CW.seq ?_
  refine E.CW.seq ?_
  refine E.CW.draw mixed (by kernel_rfl) ?_
  refine E.QW.pure rfl rfl rfl (E.PV.move rfl rfl) ?_
  refine E.QW.pure rfl rfl rfl (E.PV.nilCheck rfl rfl) ?_
  refine E.QW.pure rfl rfl rfl (E.PV.fieldAddr fa151_1 rfl rfl) ?_
  refine E.QW.pure rfl rfl rfl (E.PV.load (i := 2) na3 rfl rfl rfl rfl) ?_
  refine E.QW.pure rfl rfl rfl (E.PV.move rfl rfl) ?_
  refine E.QW.pure rfl rfl rfl (E.PV.nilCheck rfl rfl) ?_
  refine E.QW.pure rfl rfl rfl (E.PV.fieldAddr fa151_0 rfl rfl) ?_
  refine E.QW.pure rfl rfl rfl (E.PV.load (i := 2) na149 rfl rfl rfl rfl) ?_
  refine E.QW.pure rfl rfl rfl (E.PV.len Try.underlying149 rfl rfl) ?_
  refine E.QW.pure rfl rfl rfl (E.PV.geq rfl rfl rfl) ?_
  refine E.QW.nil ?_
  refine E.then_n ?_
  refine E.CW.cond rfl (fun hc => ?_) (fun hc => ?_)
  · simp only [E.b0, E.b1, E.b2, E.b3, E.b4, E.b5, E.b6, E.b7, E.b8, E.b9, E.b10, E.b11, E.b12, E.b13, E.b14, E.b15, E.b16, E.b17, E.b18, E.b19, E.b20, reduceCtorEq] at hc
    all_goals (
      refine E.CW.seq ?_
      refine E.CW.region ?_
      refine E.OW.pure rfl rfl rfl (E.PV.loads (i := 0) is154 rfl rfl rfl rfl) ?_
      refine E.OW.store (i := 1) in154.size rfl rfl rfl rfl rfl rfl rfl rfl rfl ?_
      refine E.OW.pure rfl rfl rfl (E.PV.assign rfl rfl) ?_
      refine E.OW.cvt (E.cv_quein (q := q) (h := h) 2 2 rfl rfl rfl rfl) ?_
      refine E.OW.nil ?_
      refine E.then_n ?_
      refine E.CW.ret ?_
      refine E.then_ret ?_
      refine E.KR.rv2 [0] Try.results130 (E.rv.cell is154 rfl (E.sli 1 rfl) rfl) rfl rfl ?_
      exact ⟨false, 0, 0, h, rfl, rfl, .inr ⟨rfl, by omega, rfl⟩⟩)
  · simp only [E.b0, E.b1, E.b2, E.b3, E.b4, E.b5, E.b6, E.b7, E.b8, E.b9, E.b10, E.b11, E.b12, E.b13, E.b14, E.b15, E.b16, E.b17, E.b18, E.b19, E.b20, reduceCtorEq] at hc
    all_goals (
      refine E.CW.skip ?_
      refine E.then_n ?_
      refine E.CW.seq ?_
      refine E.CW.drawx mixed [2, 2] rfl ?_
      all_goals (refine E.AW.first 0 rfl (by kernel_rfl) (by kernel_rfl) (by kernel_rfl) rfl rfl rfl (E.PV.move rfl rfl) ?_)
      all_goals (refine E.AW.first 1 rfl (by kernel_rfl) (by kernel_rfl) (by kernel_rfl) rfl rfl rfl (E.PV.nilCheck rfl rfl) ?_)
      all_goals (refine E.AW.first 2 rfl (by kernel_rfl) (by kernel_rfl) (by kernel_rfl) rfl rfl rfl (E.PV.fieldAddr fa151_0 rfl rfl) ?_)
      all_goals (refine E.AW.first 3 rfl (by kernel_rfl) (by kernel_rfl) (by kernel_rfl) rfl rfl rfl (E.PV.load (i := 0) na149 rfl rfl rfl rfl) ?_)
      all_goals (refine E.AW.first 4 rfl (by kernel_rfl) (by kernel_rfl) (by kernel_rfl) rfl rfl rfl (E.PV.move rfl rfl) ?_)
      all_goals (refine E.AW.first 5 rfl (by kernel_rfl) (by kernel_rfl) (by kernel_rfl) rfl rfl rfl (E.PV.nilCheck rfl rfl) ?_)
      all_goals (refine E.AW.first 6 rfl (by kernel_rfl) (by kernel_rfl) (by kernel_rfl) rfl rfl rfl (E.PV.fieldAddr fa151_1 rfl rfl) ?_)
      all_goals (refine E.AW.first 7 rfl (by kernel_rfl) (by kernel_rfl) (by kernel_rfl) rfl rfl rfl (E.PV.load (i := 0) na3 rfl rfl rfl rfl) ?_)
      all_goals (refine E.AW.first 8 rfl (by kernel_rfl) (by kernel_rfl) (by kernel_rfl) rfl rfl rfl (E.PV.indexAddr (E.rdr (i := 1) rfl) Try.underlying149 in154 rfl rfl rfl rfl ?_ ?_ (by decide)) ?_; (focus (first | (simp; done) | (simp; omega))); (focus (omega)))
      all_goals (refine E.AW.first 9 rfl (by kernel_rfl) (by kernel_rfl) (by kernel_rfl) rfl rfl rfl (E.PV.load_pair (E.rdr (i := 1) rfl) is154 rfl rfl ?_) ?_; (focus (omega)))
      all_goals (refine E.AW.one 10 (by kernel_rfl) rfl ?_)
      all_goals (refine E.OW.alloc (in154.zr) rfl rfl rfl rfl rfl (fun B3 => ?_))
      all_goals (first | (refine E.AW.nil [2, 2] rfl ?_) | (refine E.AW.nil [3, 3] rfl ?_) | (refine E.AW.nil [4, 4] rfl ?_) | (refine E.AW.nil [5, 5] rfl ?_) | (refine E.AW.nil [6, 6] rfl ?_) | (refine E.AW.nil [7, 7] rfl ?_) | (refine E.AW.nil [8, 8] rfl ?_) | (refine E.AW.nil [1, 1] rfl ?_) | (refine E.AW.nil [0, 0] rfl ?_))
      all_goals (refine E.AW.one 11 (by kernel_rfl) rfl ?_)
      all_goals (refine E.OW.store (i := 0) in154.size rfl rfl rfl rfl rfl rfl rfl rfl rfl ?_)
      all_goals (first | (refine E.AW.nil [2, 2] rfl ?_) | (refine E.AW.nil [3, 3] rfl ?_) | (refine E.AW.nil [4, 4] rfl ?_) | (refine E.AW.nil [5, 5] rfl ?_) | (refine E.AW.nil [6, 6] rfl ?_) | (refine E.AW.nil [7, 7] rfl ?_) | (refine E.AW.nil [8, 8] rfl ?_) | (refine E.AW.nil [1, 1] rfl ?_) | (refine E.AW.nil [0, 0] rfl ?_))
      all_goals (refine E.AW.done (by kernel_rfl) ?_)
      all_goals (
        skip
        refine E.then_n ?_
        refine E.CW.seq ?_
        refine E.CW.region ?_
        refine E.OW.pure rfl rfl rfl (E.PV.move rfl rfl) ?_
        refine E.OW.pure rfl rfl rfl (E.PV.nilCheck rfl rfl) ?_
        refine E.OW.pure rfl rfl rfl (E.PV.fieldAddr fa151_1 rfl rfl) ?_
        refine E.OW.pure rfl rfl rfl (E.PV.load (i := 3) na3 rfl rfl rfl rfl) ?_
        refine E.OW.pure rfl rfl rfl (E.PV.add_i64 rfl rfl rfl ?_) ?_; (focus (omega))
        refine E.OW.pure rfl rfl rfl (E.PV.nilCheck rfl rfl) ?_
        refine E.OW.pure rfl rfl rfl (E.PV.fieldAddr fa151_1 rfl rfl) ?_
        refine E.OW.store (i := 3) in3.size rfl rfl rfl rfl rfl rfl rfl rfl rfl ?_
        refine E.OW.nil ?_
        refine E.then_n ?_
        refine E.CW.seq ?_
        refine E.CW.region ?_
        refine E.OW.pure rfl rfl rfl (E.PV.loads (i := 1) is154 rfl rfl rfl rfl) ?_
        refine E.OW.store (i := 3) in154.size rfl rfl rfl rfl rfl rfl rfl rfl rfl ?_
        refine E.OW.pure rfl rfl rfl (E.PV.assign rfl rfl) ?_
        refine E.OW.cvt (E.cv_quein (q := q) (h := h + 1) 1 3 rfl rfl rfl rfl) ?_
        refine E.OW.nil ?_
        refine E.then_n ?_
        refine E.CW.ret ?_
        refine E.KR.rv2 [0] Try.results130 (E.rv.cell is154 rfl (E.sli 1 rfl) rfl) rfl rfl ?_
        exact ⟨true, _, _, h + 1, rfl, rfl, .inl ⟨rfl, by omega, congrArg Prod.fst (E.qI_get q h), congrArg Prod.snd (E.qI_get q h), rfl⟩⟩))
end Go.Proofs.Ytflkbabhbnmajaa

/- Closed facts on the program (printed by gen.py). -/
namespace Go.Proofs.Ytflkbabhbnmajaa
open Go Go.RowKit
set_option linter.unusedSimpArgs false
set_option linter.unusedVariables false
theorem bld154_0_1 (x0 : Int) (x1 : Int) (w : World) : (Instr.build 154 #[(0, .int .i64 x0), (1, .int .i64 x1)]).run Try.prog w = .ok (.agg #[.int .i64 x0, .int .i64 x1]) w := by kernel_rfl

theorem fa154_0 : E.FA Try.prog 154 0 0 := fun _ _ _ => by kernel_rfl

theorem fa154_1 : E.FA Try.prog 154 1 1 := fun _ _ _ => by kernel_rfl

theorem fa93_0 : E.FA Try.prog 93 0 0 := fun _ _ _ => by kernel_rfl

theorem fa93_1 : E.FA Try.prog 93 1 1 := fun _ _ _ => by kernel_rfl

theorem fa93_2 : E.FA Try.prog 93 2 2 := fun _ _ _ => by kernel_rfl

theorem fa93_3 : E.FA Try.prog 93 3 3 := fun _ _ _ => by kernel_rfl

theorem fa93_4 : E.FA Try.prog 93 4 4 := fun _ _ _ => by kernel_rfl

theorem in151 : E.In Try.prog 151 (.agg #[.slice none 0 0, .int .i64 0]) 2 32 := by unfold E.In; kernel_rfl

theorem in4 : E.In Try.prog 4 (.bool false) 1 1 := by unfold E.In; kernel_rfl

theorem in89 : E.In Try.prog 89 (.slice none 0 0) 1 24 := by unfold E.In; kernel_rfl

theorem na4 : E.Na Try.prog 4 := fun _ => by kernel_rfl

theorem na87 : E.Na Try.prog 87 := fun _ => by kernel_rfl

theorem na89 : E.Na Try.prog 89 := fun _ => by kernel_rfl

theorem na90 : E.Na Try.prog 90 := fun _ => by kernel_rfl

theorem na91 : E.Na Try.prog 91 := fun _ => by kernel_rfl

theorem nm128 : E.Nm Try.prog 128 := ⟨Try.f128, Try.func128, rfl, by kernel_rfl⟩

theorem nm129 : E.Nm Try.prog 129 := ⟨Try.f129, Try.func129, rfl, by kernel_rfl⟩

theorem nm130 : E.Nm Try.prog 130 := ⟨Try.f130, Try.func130, rfl, by kernel_rfl⟩
end Go.Proofs.Ytflkbabhbnmajaa

/- Walks (printed by gen.py). -/
namespace Go.Proofs.Ytflkbabhbnmajaa
open Go Go.RowKit
set_option linter.unusedSimpArgs false
set_option linter.unusedVariables false

set_option maxRecDepth 100000 in
theorem see_ok (y : E.Pl) (D : Bf.DD) (Bx B h p k : Nat) (q : List (Nat × Nat)) (m : Int) (S : Nat → Prop) (w0 : World) (hS : (E.HP.bag [E.HP.que B q h, E.HP.dist y D]).sem S w0) (hb : ∀ k, S k → k < w0.heap.size) (hr : y.rd0 w0 (E.Fm w0 S)) (hbx : E.Rd w0 (E.Fm w0 S) (some ⟨Bx, 0, none⟩) [y.v]) (hk : k < y.x.K) (hp : p < y.x.n) (hq : q.length ≤ 2000) :
    Calls Try.prog 128 #[.int .i64 (p : Int), .int .i64 (k : Int), .int .i64 m, .pointer (some ⟨Bx, 0, none⟩), .pointer (some ⟨B, 0, none⟩)] w0 (E.Post w0 (E.Fm w0 S) fun v Hn => Hn = [E.HP.que B (Bf.seeQ y.x D q p k) h, E.HP.dist y (Bf.seeD D p k m)]) := by
  refine E.calls_of (vs := [.int .i64 (p : Int), .int .i64 (k : Int), .int .i64 m, .pointer (some ⟨Bx, 0, none⟩), .pointer (some ⟨B, 0, none⟩)]) (H := [E.HP.bag [E.HP.que B q h, E.HP.dist y D]]) Try.func128 Try.ntmps128 rfl rfl (E.HA.startM hS hb) ?_
  refine E.CW.seq ?_
  refine E.CW.open 0 rfl ?_
  refine E.CW.region ?_
  refine E.OW.pure rfl rfl rfl (E.PV.load_at (E.rdc hbx) na87 rfl rfl rfl) ?_
  refine E.OW.pure rfl rfl rfl (E.PV.nilCheck rfl rfl) ?_
  refine E.OW.pure rfl rfl rfl (E.PV.fieldAddr fa93_3 rfl rfl) ?_
  refine E.OW.pure rfl rfl rfl (E.PV.load_at (E.p_b (E.sr0 hr)) na91 rfl rfl rfl) ?_
  refine E.OW.pure rfl rfl rfl (E.PV.move rfl rfl) ?_
  refine E.OW.pure rfl rfl rfl (E.PV.indexAddr1 (E.p_d (E.sr0 hr)) Try.underlying91 in31 rfl rfl rfl rfl ?_ ?_) ?_; (focus (first | (simp; done) | (simp; omega))); (focus (omega))
  refine E.OW.pure rfl rfl rfl (E.PV.load_sc (E.p_d (E.sr0 hr)) na31 rfl rfl ?_) ?_; (focus (omega))
  refine E.OW.pure rfl rfl rfl (E.PV.move rfl rfl) ?_
  refine E.OW.pure rfl rfl rfl (E.PV.indexAddr1 (E.p_dr (E.srdc (i := 1) rfl) ?_) Try.underlying31 in3 rfl rfl rfl rfl ?_ ?_) ?_; (focus (omega)); (focus (first | (simp; done) | (simp; omega))); (focus (omega))
  refine E.OW.pure rfl rfl rfl (E.PV.load_ii (E.p_dr (E.srdc (i := 1) rfl) ?_) na3 rfl rfl ?_) ?_; (focus (omega)); (focus (omega))
  refine E.OW.pure rfl rfl rfl (E.PV.lss rfl rfl rfl) ?_
  refine E.OW.nil ?_
  refine E.then_n ?_
  refine E.CW.cond rfl (fun hc => ?_) (fun hc => ?_)
  · simp only [E.b0, E.b1, E.b2, E.b3, E.b4, E.b5, E.b6, E.b7, E.b8, E.b9, E.b10, E.b11, E.b12, E.b13, E.b14, E.b15, E.b16, E.b17, E.b18, E.b19, E.b20, reduceCtorEq] at hc
    all_goals (
      refine E.CW.seq ?_
      refine E.CW.region ?_
      refine E.OW.pure rfl rfl rfl (E.PV.load_at (E.rdc hbx) na87 rfl rfl rfl) ?_
      refine E.OW.pure rfl rfl rfl (E.PV.nilCheck rfl rfl) ?_
      refine E.OW.pure rfl rfl rfl (E.PV.fieldAddr fa93_3 rfl rfl) ?_
      refine E.OW.pure rfl rfl rfl (E.PV.load_at (E.p_b (E.sr0 hr)) na91 rfl rfl rfl) ?_
      refine E.OW.pure rfl rfl rfl (E.PV.move rfl rfl) ?_
      refine E.OW.pure rfl rfl rfl (E.PV.indexAddr1 (E.p_d (E.sr0 hr)) Try.underlying91 in31 rfl rfl rfl rfl ?_ ?_) ?_; (focus (first | (simp; done) | (simp; omega))); (focus (omega))
      refine E.OW.pure rfl rfl rfl (E.PV.load_sc (E.p_d (E.sr0 hr)) na31 rfl rfl ?_) ?_; (focus (omega))
      refine E.OW.pure rfl rfl rfl (E.PV.move rfl rfl) ?_
      refine E.OW.pure rfl rfl rfl (E.PV.move rfl rfl) ?_
      refine E.OW.pure rfl rfl rfl (E.PV.indexAddr1 (E.p_dr (E.srdc (i := 1) rfl) ?_) Try.underlying31 in3 rfl rfl rfl rfl ?_ ?_) ?_; (focus (omega)); (focus (first | (simp; done) | (simp; omega))); (focus (omega))
      refine E.OW.store_rows (i := 1) in3.size rfl rfl rfl rfl rfl rfl ?_ ?_ ?_; (focus (omega)); (focus (omega))
      refine E.OW.nil ?_
      refine E.then_n ?_
      refine E.CW.seq ?_
      refine E.CW.conv (E.cv_chunk 0 (E.HP.dist y (Bf.upd D k p m)) rfl (E.dist_upd y D k p m)) ?_
      refine E.CW.sels [1, 0] rfl ?_
      refine E.CW.region ?_
      refine E.OW.pure rfl rfl rfl (E.PV.load_at (E.rdc hbx) na87 rfl rfl rfl) ?_
      refine E.OW.pure rfl rfl rfl (E.PV.nilCheck rfl rfl) ?_
      refine E.OW.pure rfl rfl rfl (E.PV.fieldAddr fa93_2 rfl rfl) ?_
      refine E.OW.pure rfl rfl rfl (E.PV.load_at (E.p_b (E.sr0 hr)) na90 rfl rfl rfl) ?_
      refine E.OW.pure rfl rfl rfl (E.PV.move rfl rfl) ?_
      refine E.OW.pure rfl rfl rfl (E.PV.indexAddr1 (E.p_a (E.sr0 hr)) Try.underlying90 in89 rfl rfl rfl rfl ?_ ?_) ?_; (focus (first | (simp; done) | (simp; omega))); (focus (omega))
      refine E.OW.pure rfl rfl rfl (E.PV.load_sc (E.p_a (E.sr0 hr)) na89 rfl rfl ?_) ?_; (focus (omega))
      refine E.OW.pure rfl rfl rfl (E.PV.move rfl rfl) ?_
      refine E.OW.pure rfl rfl rfl (E.PV.indexAddr1 (E.p_ar (E.sr0 hr) ?_) Try.underlying89 in4 rfl rfl rfl rfl ?_ ?_) ?_; (focus (omega)); (focus (first | (simp; done) | (simp; omega))); (focus (omega))
      refine E.OW.pure rfl rfl rfl (E.PV.load_bl (E.p_ar (E.sr0 hr) ?_) na4 rfl rfl ?_) ?_; (focus (omega)); (focus (omega))
      refine E.OW.nil ?_
      refine E.then_n ?_
      refine E.CW.cond rfl (fun hc => ?_) (fun hc => ?_)
      · skip
        all_goals (
          refine E.CW.region ?_
          refine E.OW.pure rfl rfl rfl (E.PV.move rfl rfl) ?_
          refine E.OW.pure rfl rfl rfl (E.PV.move rfl rfl) ?_
          refine E.OW.pure rfl rfl rfl (E.PV.build (ps := [(0, .tmp 39), (1, .tmp 40)]) rfl rfl (fun w => bld154_0_1 _ _ w)) ?_
          (refine E.OW.callM nm129 rfl rfl rfl rfl rfl rfl _ 0 rfl (fun w S hw hs hb hc => push_ok _ _ _ _ _ S w hs (fun k hk => (hb k hk).1) ?_) ?_; (focus (assumption)); rintro _ _ rfl)
          refine E.OW.nil ?_
          refine (E.KR.zero [0, 0] Try.results128 rfl ?_).1
          by_cases hd : D k p < 0
          · by_cases ha : y.x.al k p = true
            · have e := Bf.see_on (x := y.x) (q := q) (m := m) hd ha
              rw [e.1, e.2]; all_goals first | rfl | (exfalso; simp_all; done) | (exfalso; omega)
            · have e := Bf.see_off (x := y.x) (q := q) (m := m) hd (Bool.eq_false_iff.2 ha)
              rw [e.1, e.2]; all_goals first | rfl | (exfalso; simp_all; done) | (exfalso; omega)
          · have e := Bf.see_no (x := y.x) (q := q) (m := m) hd
            rw [e.1, e.2]; all_goals first | rfl | (exfalso; omega))
      · skip
        all_goals (
          refine E.CW.skip ?_
          refine (E.KR.zero [0, 0] Try.results128 rfl ?_).1
          by_cases hd : D k p < 0
          · by_cases ha : y.x.al k p = true
            · have e := Bf.see_on (x := y.x) (q := q) (m := m) hd ha
              rw [e.1, e.2]; all_goals first | rfl | (exfalso; simp_all; done) | (exfalso; omega)
            · have e := Bf.see_off (x := y.x) (q := q) (m := m) hd (Bool.eq_false_iff.2 ha)
              rw [e.1, e.2]; all_goals first | rfl | (exfalso; simp_all; done) | (exfalso; omega)
          · have e := Bf.see_no (x := y.x) (q := q) (m := m) hd
            rw [e.1, e.2]; all_goals first | rfl | (exfalso; omega)))
  · simp only [E.b0, E.b1, E.b2, E.b3, E.b4, E.b5, E.b6, E.b7, E.b8, E.b9, E.b10, E.b11, E.b12, E.b13, E.b14, E.b15, E.b16, E.b17, E.b18, E.b19, E.b20, reduceCtorEq] at hc
    all_goals (
      refine E.CW.skip ?_
      refine (E.KR.zero [0, 0] Try.results128 rfl ?_).1
      by_cases hd : D k p < 0
      · by_cases ha : y.x.al k p = true
        · have e := Bf.see_on (x := y.x) (q := q) (m := m) hd ha
          rw [e.1, e.2]; all_goals first | rfl | (exfalso; simp_all; done) | (exfalso; omega)
        · have e := Bf.see_off (x := y.x) (q := q) (m := m) hd (Bool.eq_false_iff.2 ha)
          rw [e.1, e.2]; all_goals first | rfl | (exfalso; simp_all; done) | (exfalso; omega)
      · have e := Bf.see_no (x := y.x) (q := q) (m := m) hd
        rw [e.1, e.2]; all_goals first | rfl | (exfalso; omega))

set_option maxRecDepth 100000 in
theorem fill_ok (y : E.Pl) (S : Nat → Prop) (w0 : World) (hS : (E.HP.dist y fun _ _ => -1).sem S w0) (hb : ∀ k, S k → k < w0.heap.size) (hr : y.rd0 w0 (E.Fm w0 S)) (hok : y.x.ok) (hn : y.x.n ≤ 64) (hK : y.x.K ≤ 16) (hnl : ∀ p, (y.x.nr p).length ≤ 5) :
    Calls Try.prog 103 #[y.v, .int .i64 (y.x.goal : Int)] w0 (E.Post w0 (E.Fm w0 S) fun v Hn => ∃ D : Bf.DD, Hn = [E.HP.dist y D] ∧ ∀ k p, k < y.x.K → p < y.x.n → y.x.cell p = true → Bf.Ar y.x k p (D k p)) := by
  obtain ⟨M, hM⟩ : ∃ M, y.x.n * y.x.K = M := ⟨_, rfl⟩
  have hM2 : M ≤ 64 * 16 := hM ▸ Nat.mul_le_mul hn hK
  have hK0 := hok.K0
  refine E.calls_of (vs := [y.v, .int .i64 (y.x.goal : Int)]) (H := [E.HP.dist y fun _ _ => -1]) Try.func103 Try.ntmps103 rfl rfl (E.HA.startM hS hb) ?_
  refine E.CW.seq ?_
  refine E.CW.region ?_
  refine E.OW.box rfl rfl rfl rfl rfl rfl (fun B1 => ?_)
  refine E.OW.nil ?_
  refine E.then_n ?_
  refine E.CW.seq ?_
  refine E.CW.region ?_
  refine E.OW.alloc (in151.zr) rfl rfl rfl rfl rfl (fun B2 => ?_)
  refine E.OW.nil ?_
  refine E.then_n ?_
  refine E.CW.seq ?_
  refine E.CW.nilrow 154 2 ?_
  refine E.CW.conv (E.cv_quein (q := []) (h := 0) 1 0 rfl rfl rfl rfl) ?_
  refine E.CW.region ?_
  refine E.OW.pure rfl rfl rfl (E.PV.makeFunc (f := .func 128) (fs := []) (cs := [.tmp 2, .tmp 4]) rfl rfl rfl) ?_
  refine E.OW.pure rfl rfl rfl (E.PV.assign rfl rfl) ?_
  refine E.OW.nil ?_
  refine E.then_n ?_
  refine E.CW.seq ?_
  refine E.CW.seq ?_
  refine E.CW.region ?_
  refine E.OW.pure rfl rfl rfl (E.PV.load (i := 1) na87 rfl rfl rfl rfl) ?_
  refine E.OW.pure rfl rfl rfl (E.PV.nilCheck rfl rfl) ?_
  refine E.OW.pure rfl rfl rfl (E.PV.fieldAddr fa93_0 rfl rfl) ?_
  refine E.OW.pure rfl rfl rfl (E.PV.load_at (E.p_b (E.sr0 hr)) na3 rfl rfl rfl) ?_
  refine E.OW.pure rfl rfl rfl (E.PV.move rfl rfl) ?_
  refine E.OW.nil ?_
  refine E.then_n ?_
  refine E.CW.block ?_
  refine E.CW.sels [0, 1, 0] rfl ?_
  refine E.CW.loopk [1, 2, 4, 5, 16] 2 rfl rfl (fun mm mods Hm => ∃ j : Nat, ∃ D : Bf.DD, ∃ q : List (Nat × Nat), mm = y.x.K - j ∧ mods = [(17, .int .i64 j)] ∧ Hm = [E.HP.que B2 q 0, E.HP.dist y D] ∧ (j ≤ y.x.K ∧ Bf.Start y.x D q j)) (y.x.K) ?_ ?_
  · exact ⟨[(17, _)], (by repeat (first | exact E.cov_nil | refine ⟨rfl, ?_⟩)), 0, _, _, rfl, rfl, rfl, by omega, Bf.Start.zero y.x fun _ _ => rfl⟩
  · rintro _ _ _ ⟨j, D, q, rfl, rfl, rfl, hj, hI⟩
    refine E.CW.seq ?_
    refine E.CW.region ?_
    refine E.OW.pure rfl rfl rfl (E.PV.lss rfl rfl rfl) ?_
    refine E.OW.nil ?_
    refine E.then_n ?_
    refine E.CW.seq ?_
    refine E.CW.cond rfl (fun hc => ?_) (fun hc => ?_)
    · simp only [E.b0, E.b1, E.b2, E.b3, E.b4, E.b5, E.b6, E.b7, E.b8, E.b9, E.b10, E.b11, E.b12, E.b13, E.b14, E.b15, E.b16, E.b17, E.b18, E.b19, E.b20, reduceCtorEq] at hc
      all_goals (
        refine E.CW.skip ?_
        refine E.then_n ?_
        refine E.CW.seq ?_
        refine E.CW.block ?_
        refine E.CW.seq ?_
        refine E.CW.region ?_
        refine E.OW.pure rfl rfl rfl (E.PV.move rfl rfl) ?_
        refine E.OW.pure rfl rfl rfl (E.PV.assign rfl rfl) ?_
        refine E.OW.nil ?_
        refine E.then_n ?_
        have hql := Bf.len_le hI.b
        refine E.CW.gather [0, 0, 0] 2 rfl rfl ?_
        refine E.CW.region ?_
        refine E.OW.pure rfl rfl rfl (E.PV.move rfl rfl) ?_
        refine E.OW.pure rfl rfl rfl (E.PV.move rfl rfl) ?_
        refine E.OW.pure rfl rfl rfl (E.PV.move rfl rfl) ?_
        refine E.OW.callcM nm128 rfl rfl rfl rfl rfl rfl _ 0 rfl (fun w S2 hw hs hb2 hc => see_ok y D B1 B2 0 y.x.goal j q 0 S2 w hs (fun k hk => (hb2 k hk).1) (hw.rd0M hr hb2) (E.blk_in hc (i := 0) rfl) (by omega) hok.glt (by omega)) ?_; rintro _ _ rfl
        refine E.OW.nil ?_
        refine E.blk_n ?_
        refine E.then_n ?_
        refine E.CW.region ?_
        refine E.OW.pure rfl rfl rfl (E.PV.add_i64 rfl rfl rfl ?_) ?_; (focus (omega))
        refine E.OW.pure rfl rfl rfl (E.PV.move rfl rfl) ?_
        refine E.OW.nil ?_
        refine E.then_nf ?_
        refine ⟨_, [(17, _)], [0, 0, 0], [_, _], ?_, by repeat (first | exact E.cov_nil | refine ⟨rfl, ?_⟩), rfl, j + 1, _, _, rfl, rfl, rfl, by omega, hI.see hok (by omega)⟩
        omega)
    · simp only [E.b0, E.b1, E.b2, E.b3, E.b4, E.b5, E.b6, E.b7, E.b8, E.b9, E.b10, E.b11, E.b12, E.b13, E.b14, E.b15, E.b16, E.b17, E.b18, E.b19, E.b20, reduceCtorEq] at hc
      all_goals (
        refine E.CW.exit ?_
        refine E.then_x ?_
        refine E.then_x ?_
        refine E.blk_eq ?_
        refine E.then_n ?_
        refine E.CW.block ?_
        refine E.CW.loopk [2, 4, 5] 2 rfl rfl (fun mm mods Hm => ∃ h : Nat, ∃ D : Bf.DD, ∃ q : List (Nat × Nat), mm = M - h ∧ mods = [] ∧ Hm = [E.HP.que B2 q h, E.HP.dist y D] ∧ (h ≤ q.length ∧ Bf.Base y.x D q h ∧ ∀ k, k < y.x.K → D k y.x.goal = 0)) (M) ?_ ?_
        · exact ⟨[], (by repeat (first | exact E.cov_nil | refine ⟨rfl, ?_⟩)), 0, _, _, rfl, rfl, rfl, by omega, hI.b, fun k hk => hI.g k (by omega)⟩
        · rintro _ _ _ ⟨h, D, q, rfl, rfl, rfl, hhq, hB, hg⟩
          have hql := Bf.len_le hB
          rw [hM] at hql
          refine E.CW.block ?_
          refine E.CW.seq ?_
          refine E.CW.region ?_
          (refine E.OW.callM nm130 rfl rfl rfl rfl rfl rfl _ 0 rfl (fun w S hw hs hb hc => pop_ok _ _ _ S w hs (fun k hk => (hb k hk).1) ?_) ?_; (focus (omega)); rintro _ _ ⟨bP, xa, xb, hP, rfl, rfl, hpop⟩)
          refine E.OW.pure rfl rfl rfl (E.PV.move rfl rfl) ?_
          refine E.OW.pure rfl rfl rfl (E.PV.extract rfl rfl rfl) ?_
          refine E.OW.pure rfl rfl rfl (E.PV.extract rfl rfl rfl) ?_
          refine E.OW.alloc (in154.zr) rfl rfl rfl rfl rfl (fun B3 => ?_)
          refine E.OW.store (i := 0) in154.size rfl rfl rfl rfl rfl rfl rfl rfl rfl ?_
          refine E.OW.pure rfl rfl rfl (E.PV.assign rfl rfl) ?_
          refine E.OW.nil ?_
          refine E.then_n ?_
          refine E.CW.seq ?_
          refine E.CW.seq ?_
          refine E.CW.region ?_
          refine E.OW.pure rfl rfl rfl (E.PV.move rfl rfl) ?_
          refine E.OW.pure rfl rfl rfl (E.PV.not rfl rfl) ?_
          refine E.OW.nil ?_
          refine E.then_n ?_
          refine E.CW.cond rfl (fun hc => ?_) (fun hc => ?_)
          · simp only [E.b0, E.b1, E.b2, E.b3, E.b4, E.b5, E.b6, E.b7, E.b8, E.b9, E.b10, E.b11, E.b12, E.b13, E.b14, E.b15, E.b16, E.b17, E.b18, E.b19, E.b20, reduceCtorEq] at hc
            all_goals (
              refine E.CW.ret ?_
              refine E.then_ret ?_
              refine E.blk_ret ?_
              refine E.then_ret ?_
              refine E.blk_ret ?_
              refine (E.KR.zero [2] Try.results103 rfl ?_).2
              rcases hpop with ⟨hb1, _, _, _, _⟩ | ⟨_, hh, _⟩
              · exfalso; simp_all
              obtain rfl : h = q.length := by omega
              exact ⟨_, rfl, fun k p hk hp hc => hB.ar hok hg hk hp hc⟩)
          · simp only [E.b0, E.b1, E.b2, E.b3, E.b4, E.b5, E.b6, E.b7, E.b8, E.b9, E.b10, E.b11, E.b12, E.b13, E.b14, E.b15, E.b16, E.b17, E.b18, E.b19, E.b20, reduceCtorEq] at hc
            all_goals (
              refine E.CW.skip ?_
              refine E.then_n ?_
              refine E.CW.seq ?_
              rcases hpop with ⟨_, hhl, rfl, rfl, rfl⟩ | ⟨hb1, _, _⟩
              rotate_left
              · exfalso; simp_all
              obtain ⟨s, hs⟩ : ∃ s, Bf.at_ q h = s := ⟨_, rfl⟩
              obtain ⟨hs1, hs2, hs3, hs4⟩ := hB.mem _ (Bf.at_mem hhl)
              have hsd := hB.bd _ _ hs2 hs1
              rw [hs] at hs1 hs2 hs3 hs4 hsd ⊢
              refine E.CW.draw mixed (by kernel_rfl) ?_
              refine E.QW.pure rfl rfl rfl (E.PV.fieldAddr fa154_1 rfl rfl) ?_
              refine E.QW.pure rfl rfl rfl (E.PV.load (i := 0) na3 rfl rfl rfl rfl) ?_
              refine E.QW.pure rfl rfl rfl (E.PV.load (i := 3) na87 rfl rfl rfl rfl) ?_
              refine E.QW.pure rfl rfl rfl (E.PV.nilCheck rfl rfl) ?_
              refine E.QW.pure rfl rfl rfl (E.PV.fieldAddr fa93_0 rfl rfl) ?_
              refine E.QW.pure rfl rfl rfl (E.PV.load_at (E.p_b (E.sr0 hr)) na3 rfl rfl rfl) ?_
              refine E.QW.pure rfl rfl rfl (E.PV.add_i64 rfl rfl rfl ?_) ?_; (focus (omega))
              refine E.QW.pure rfl rfl rfl (E.PV.sub_i64 rfl rfl rfl ?_) ?_; (focus (omega))
              refine E.QW.pure rfl rfl rfl (E.PV.load (i := 3) na87 rfl rfl rfl rfl) ?_
              refine E.QW.pure rfl rfl rfl (E.PV.nilCheck rfl rfl) ?_
              refine E.QW.pure rfl rfl rfl (E.PV.fieldAddr fa93_0 rfl rfl) ?_
              refine E.QW.pure rfl rfl rfl (E.PV.load_at (E.p_b (E.sr0 hr)) na3 rfl rfl rfl) ?_
              refine E.QW.pure rfl rfl rfl (E.PV.rem_i64 rfl rfl rfl ?_ ?_) ?_; (focus (omega)); (focus (omega))
              refine E.QW.pure rfl rfl rfl (E.PV.assign rfl rfl) ?_
              refine E.QW.nil ?_
              refine E.then_n ?_
              refine E.CW.seq ?_
              refine E.CW.put 9 (.int .i64 ((Bf.bef y.x s.2 : Nat) : Int)) rfl (congrArg (Value.int .i64) (Bf.bef_int hok s.2)) ?_
              refine E.CW.draw mixed (by kernel_rfl) ?_
              refine E.QW.pure rfl rfl rfl (E.PV.load (i := 3) na87 rfl rfl rfl rfl) ?_
              refine E.QW.pure rfl rfl rfl (E.PV.nilCheck rfl rfl) ?_
              refine E.QW.pure rfl rfl rfl (E.PV.fieldAddr fa93_4 rfl rfl) ?_
              refine E.QW.pure rfl rfl rfl (E.PV.load_at (E.p_b (E.sr0 hr)) na91 rfl rfl rfl) ?_
              refine E.QW.pure rfl rfl rfl (E.PV.fieldAddr fa154_0 rfl rfl) ?_
              refine E.QW.pure rfl rfl rfl (E.PV.load (i := 0) na3 rfl rfl rfl rfl) ?_
              refine E.QW.pure rfl rfl rfl (E.PV.indexAddr1 (E.p_n (E.sr0 hr)) Try.underlying91 in31 rfl rfl rfl rfl ?_ ?_) ?_; (focus (first | (simp; done) | (simp; omega))); (focus (omega))
              refine E.QW.pure rfl rfl rfl (E.PV.load_sn (E.p_n (E.sr0 hr)) na31 rfl rfl ?_) ?_; (focus (omega))
              refine E.QW.pure rfl rfl rfl (E.PV.len Try.underlying31 rfl rfl) ?_
              refine E.QW.pure rfl rfl rfl (E.PV.move rfl rfl) ?_
              refine E.QW.nil ?_
              refine E.then_n ?_
              refine E.CW.block ?_
              refine E.CW.sels [1, 1, 0, 0] rfl ?_
              refine E.CW.loopk [2, 4, 5, 7, 9, 51, 52] 2 rfl rfl (fun mm mods Hm => ∃ i : Nat, ∃ D : Bf.DD, ∃ q : List (Nat × Nat), mm = (y.x.nr s.1).length - i ∧ mods = [(53, .int .i64 i)] ∧ Hm = [E.HP.que B2 q (h + 1), E.HP.dist y D] ∧ (i ≤ (y.x.nr s.1).length ∧ Bf.at_ q h = s ∧ Bf.Part y.x D q h i)) ((y.x.nr s.1).length) ?_ ?_
              · exact ⟨[(53, _)], (by repeat (first | exact E.cov_nil | refine ⟨rfl, ?_⟩)), 0, _, _, rfl, rfl, rfl, by omega, hs, hB.part hhl hg⟩
              · rintro _ _ _ ⟨i, D, q, rfl, rfl, rfl, hi, hat, hP⟩
                have hnl2 := hnl s.1
                have hql2 := Bf.len_le hP.b
                rw [hM] at hql2
                have hsd2 := hP.b.bd _ _ hs2 hs1
                have hsl := (hP.b.mem _ (Bf.at_mem hP.hl)).2.2.2
                rw [hat] at hsl
                refine E.CW.seq ?_
                refine E.CW.region ?_
                refine E.OW.pure rfl rfl rfl (E.PV.lss rfl rfl rfl) ?_
                refine E.OW.nil ?_
                refine E.then_n ?_
                refine E.CW.seq ?_
                refine E.CW.cond rfl (fun hc => ?_) (fun hc => ?_)
                · simp only [E.b0, E.b1, E.b2, E.b3, E.b4, E.b5, E.b6, E.b7, E.b8, E.b9, E.b10, E.b11, E.b12, E.b13, E.b14, E.b15, E.b16, E.b17, E.b18, E.b19, E.b20, reduceCtorEq] at hc
                  all_goals (
                    refine E.CW.skip ?_
                    refine E.then_n ?_
                    refine E.CW.seq ?_
                    refine E.CW.block ?_
                    refine E.CW.seq ?_
                    have hin : (y.x.nr s.1).getD i 0 ∈ y.x.nr s.1 := by rw [List.getD_eq_getElem?_getD, List.getElem?_eq_getElem (show i < (y.x.nr s.1).length by omega), Option.getD_some]; exact List.getElem_mem _
                    have hjn := hok.nrlt _ _ hs1 hin
                    refine E.CW.region ?_
                    refine E.OW.pure rfl rfl rfl (E.PV.indexAddr1 (E.p_nr (E.sr0 hr) ?_) Try.underlying31 in3 rfl rfl rfl rfl ?_ ?_) ?_; (focus (omega)); (focus (first | (simp; done) | (simp; omega))); (focus (omega))
                    refine E.OW.pure rfl rfl rfl (E.PV.load_nn (E.p_nr (E.sr0 hr) ?_) na3 rfl rfl ?_) ?_; (focus (omega)); (focus (omega))
                    refine E.OW.pure rfl rfl rfl (E.PV.assign rfl rfl) ?_
                    refine E.OW.nil ?_
                    refine E.then_n ?_
                    refine E.CW.seq ?_
                    refine E.CW.region ?_
                    refine E.OW.pure rfl rfl rfl (E.PV.load (i := 3) na87 rfl rfl rfl rfl) ?_
                    refine E.OW.pure rfl rfl rfl (E.PV.nilCheck rfl rfl) ?_
                    refine E.OW.pure rfl rfl rfl (E.PV.fieldAddr fa93_1 rfl rfl) ?_
                    refine E.OW.pure rfl rfl rfl (E.PV.load_at (E.p_b (E.sr0 hr)) na89 rfl rfl rfl) ?_
                    refine E.OW.pure rfl rfl rfl (E.PV.move rfl rfl) ?_
                    refine E.OW.pure rfl rfl rfl (E.PV.indexAddr1 (E.p_c (E.sr0 hr)) Try.underlying89 in4 rfl rfl rfl rfl ?_ ?_) ?_; (focus (first | (simp; done) | (simp; omega))); (focus (omega))
                    refine E.OW.pure rfl rfl rfl (E.PV.load_bl (E.p_c (E.sr0 hr)) na4 rfl rfl ?_) ?_; (focus (omega))
                    refine E.OW.nil ?_
                    refine E.then_n ?_
                    refine E.CW.cond rfl (fun hc => ?_) (fun hc => ?_)
                    · skip
                      all_goals (
                        refine E.CW.drawx mixed [2, 2] rfl ?_
                        all_goals (refine E.AW.first 0 rfl (by kernel_rfl) (by kernel_rfl) (by kernel_rfl) rfl rfl rfl (E.PV.move rfl rfl) ?_)
                        all_goals (refine E.AW.first 1 rfl (by kernel_rfl) (by kernel_rfl) (by kernel_rfl) rfl rfl rfl (E.PV.move rfl rfl) ?_)
                        all_goals (refine E.AW.first 2 rfl (by kernel_rfl) (by kernel_rfl) (by kernel_rfl) rfl rfl rfl (E.PV.move rfl rfl) ?_)
                        all_goals (refine E.AW.first 3 rfl (by kernel_rfl) (by kernel_rfl) (by kernel_rfl) rfl rfl rfl (E.PV.load (i := 1) na87 rfl rfl rfl rfl) ?_)
                        all_goals (refine E.AW.first 4 rfl (by kernel_rfl) (by kernel_rfl) (by kernel_rfl) rfl rfl rfl (E.PV.nilCheck rfl rfl) ?_)
                        all_goals (refine E.AW.first 5 rfl (by kernel_rfl) (by kernel_rfl) (by kernel_rfl) rfl rfl rfl (E.PV.fieldAddr fa93_3 rfl rfl) ?_)
                        all_goals (refine E.AW.first 6 rfl (by kernel_rfl) (by kernel_rfl) (by kernel_rfl) rfl rfl rfl (E.PV.load_at (E.p_b (E.sr0 hr)) na91 rfl rfl rfl) ?_)
                        all_goals (refine E.AW.first 7 rfl (by kernel_rfl) (by kernel_rfl) (by kernel_rfl) rfl rfl rfl (E.PV.fieldAddr fa154_1 rfl rfl) ?_)
                        all_goals (refine E.AW.first 8 rfl (by kernel_rfl) (by kernel_rfl) (by kernel_rfl) rfl rfl rfl (E.PV.load (i := 0) na3 rfl rfl rfl rfl) ?_)
                        all_goals (refine E.AW.first 9 rfl (by kernel_rfl) (by kernel_rfl) (by kernel_rfl) rfl rfl rfl (E.PV.indexAddr1 (E.p_d (E.sr0 hr)) Try.underlying91 in31 rfl rfl rfl rfl ?_ ?_) ?_; (focus (first | (simp; done) | (simp; omega))); (focus (omega)))
                        all_goals (refine E.AW.first 10 rfl (by kernel_rfl) (by kernel_rfl) (by kernel_rfl) rfl rfl rfl (E.PV.load_sc (E.p_d (E.sr0 hr)) na31 rfl rfl ?_) ?_; (focus (omega)))
                        all_goals (refine E.AW.first 11 rfl (by kernel_rfl) (by kernel_rfl) (by kernel_rfl) rfl rfl rfl (E.PV.fieldAddr fa154_0 rfl rfl) ?_)
                        all_goals (refine E.AW.first 12 rfl (by kernel_rfl) (by kernel_rfl) (by kernel_rfl) rfl rfl rfl (E.PV.load (i := 0) na3 rfl rfl rfl rfl) ?_)
                        all_goals (refine E.AW.one 13 (by kernel_rfl) rfl ?_)
                        all_goals (refine E.OW.pure rfl rfl rfl (E.PV.indexAddr1 (E.p_dr (E.srdc (i := 1) rfl) ?_) Try.underlying31 in3 rfl rfl rfl rfl ?_ ?_) ?_; (focus (omega)); (focus (first | (simp; done) | (simp; omega))); (focus (omega)))
                        all_goals (first | (refine E.AW.nil [2, 2] rfl ?_) | (refine E.AW.nil [3, 3] rfl ?_) | (refine E.AW.nil [4, 4] rfl ?_) | (refine E.AW.nil [5, 5] rfl ?_) | (refine E.AW.nil [6, 6] rfl ?_) | (refine E.AW.nil [7, 7] rfl ?_) | (refine E.AW.nil [8, 8] rfl ?_) | (refine E.AW.nil [1, 1] rfl ?_) | (refine E.AW.nil [0, 0] rfl ?_))
                        all_goals (refine E.AW.one 14 (by kernel_rfl) rfl ?_)
                        all_goals (refine E.OW.pure rfl rfl rfl (E.PV.load_ii (E.p_dr (E.srdc (i := 1) rfl) ?_) na3 rfl rfl ?_) ?_; (focus (omega)); (focus (omega)))
                        all_goals (first | (refine E.AW.nil [2, 2] rfl ?_) | (refine E.AW.nil [3, 3] rfl ?_) | (refine E.AW.nil [4, 4] rfl ?_) | (refine E.AW.nil [5, 5] rfl ?_) | (refine E.AW.nil [6, 6] rfl ?_) | (refine E.AW.nil [7, 7] rfl ?_) | (refine E.AW.nil [8, 8] rfl ?_) | (refine E.AW.nil [1, 1] rfl ?_) | (refine E.AW.nil [0, 0] rfl ?_))
                        all_goals (refine E.AW.first 15 rfl (by kernel_rfl) (by kernel_rfl) (by kernel_rfl) rfl rfl rfl (E.PV.add_i64 rfl rfl rfl ?_) ?_; (focus (omega)))
                        all_goals (refine E.AW.conv (E.cv_gather [0, 0, 0, 0] 2 rfl rfl) ?_)
                        all_goals (refine E.AW.one 16 (by kernel_rfl) rfl ?_)
                        all_goals (refine E.OW.callcM nm128 rfl rfl rfl rfl rfl rfl _ 0 rfl (fun w S2 hw hs hb2 hc => see_ok y D B1 B2 (h + 1) ((y.x.nr s.1).getD i 0) (Bf.bef y.x s.2) q (D s.2 s.1 + 1) S2 w hs (fun k hk => (hb2 k hk).1) (hw.rd0M hr hb2) (E.blk_in hc (i := 1) rfl) (Bf.bef_lt hok _) (by assumption) (by omega)) ?_; rintro _ _ rfl)
                        all_goals (first | (refine E.AW.nil [2, 2] rfl ?_) | (refine E.AW.nil [3, 3] rfl ?_) | (refine E.AW.nil [4, 4] rfl ?_) | (refine E.AW.nil [5, 5] rfl ?_) | (refine E.AW.nil [6, 6] rfl ?_) | (refine E.AW.nil [7, 7] rfl ?_) | (refine E.AW.nil [8, 8] rfl ?_) | (refine E.AW.nil [1, 1] rfl ?_) | (refine E.AW.nil [0, 0] rfl ?_))
                        all_goals (refine E.AW.done (by kernel_rfl) ?_)
                        all_goals (
                          skip
                          refine E.blk_n ?_
                          refine E.then_n ?_
                          refine E.CW.region ?_
                          refine E.OW.pure rfl rfl rfl (E.PV.add_i64 rfl rfl rfl ?_) ?_; (focus (omega))
                          refine E.OW.pure rfl rfl rfl (E.PV.move rfl rfl) ?_
                          refine E.OW.nil ?_
                          refine E.then_nf ?_
                          refine ⟨_, [(53, _)], [0, 0, 0, 0], [_, _], ?_, by repeat (first | exact E.cov_nil | refine ⟨rfl, ?_⟩), rfl, i + 1, _, _, rfl, rfl, rfl, by omega, (Bf.seeQ_at hP.hl).trans hat, (by have hx := hP.see hok (by rw [hat]; omega) (by rw [hat]; assumption); rw [hat] at hx; exact hx)⟩
                          omega))
                    · skip
                      all_goals (
                        refine E.CW.skip ?_
                        refine E.blk_n ?_
                        refine E.then_n ?_
                        refine E.CW.region ?_
                        refine E.OW.pure rfl rfl rfl (E.PV.add_i64 rfl rfl rfl ?_) ?_; (focus (omega))
                        refine E.OW.pure rfl rfl rfl (E.PV.move rfl rfl) ?_
                        refine E.OW.nil ?_
                        refine E.then_nf ?_
                        refine ⟨_, [(53, _)], [0, 0, 0, 0], [_, _], ?_, by repeat (first | exact E.cov_nil | refine ⟨rfl, ?_⟩), rfl, i + 1, _, _, rfl, rfl, rfl, by omega, hat, hP.skip (by rw [hat]; assumption)⟩
                        omega))
                · simp only [E.b0, E.b1, E.b2, E.b3, E.b4, E.b5, E.b6, E.b7, E.b8, E.b9, E.b10, E.b11, E.b12, E.b13, E.b14, E.b15, E.b16, E.b17, E.b18, E.b19, E.b20, reduceCtorEq] at hc
                  all_goals (
                    refine E.CW.exit ?_
                    refine E.then_x ?_
                    refine E.then_x ?_
                    refine E.blk_eq ?_
                    refine E.blk_n ?_
                    refine E.then_nf ?_
                    refine ⟨_, [], [0, 0, 1], [_, _], ?_, by repeat (first | exact E.cov_nil | refine ⟨rfl, ?_⟩), rfl, h + 1, _, _, rfl, rfl, rfl, hP.hl, hP.done (by rw [hat]; omega), hP.g⟩
                    omega)))
end Go.Proofs.Ytflkbabhbnmajaa

/- Making a plan: rows that are filled, rows of rows that grow. -/
set_option linter.unusedSimpArgs false
set_option linter.unusedVariables false
namespace Go.Proofs.Ytflkbabhbnmajaa
namespace E
open Go Go.RowKit
/-- the first i of what f says, the others not. -/
def ltb (i : Nat) (f : Nat → Bool) (j : Nat) : Bool := decide (j < i) && f j
def inl (l : List Int) (j : Nat) : Bool := decide ((j : Int) ∈ l)
theorem ltb_at {i : Nat} {f : Nat → Bool} : ltb (i + 1) f i = f i := by simp [ltb]
theorem ltb_set {i n : Nat} {f : Nat → Bool} {b : Bool} (h : b = f i) : bls n (up (ltb i f) i b) = bls n (ltb (i + 1) f) := by
  congr 1
  funext j
  unfold up ltb
  by_cases hj : j = i
  · subst hj; simp [h]
  · rw [if_neg hj]; congr 1; rw [decide_eq_decide]; omega
theorem bls_congr {n : Nat} {f g : Nat → Bool} (h : ∀ j, j < n → f j = g j) : bls n f = bls n g := by
  unfold bls; apply List.map_congr_left; intro j hj; rw [h j (List.mem_range.1 hj)]
theorem ltb_zero (n : Nat) (f : Nat → Bool) : bls n (fun _ => false) = bls n (ltb 0 f) := bls_congr fun j _ => by simp [ltb]
theorem ltb_all (n : Nat) (f : Nat → Bool) : bls n (ltb n f) = bls n f := bls_congr fun j hj => by simp [ltb, hj]
theorem inl_zero (n : Nat) : bls n (fun _ => false) = bls n (inl []) := bls_congr fun j _ => by simp [inl]
theorem inl_take {n i : Nat} {l : List Int} (hi : i < l.length) (h0 : 0 ≤ l.getD i 0) : bls n (up (inl (l.take i)) (l.getD i 0).toNat true) = bls n (inl (l.take (i + 1))) := by
  congr 1
  funext j
  unfold up inl
  have e : l.getD i 0 = l[i] := by simp [List.getD, hi]
  rw [List.take_add_one, List.getElem?_eq_getElem hi, Option.toList_some]
  simp only [List.mem_append, List.mem_singleton]
  by_cases hj : j = (l.getD i 0).toNat
  · rw [if_pos hj]
    have : (j : Int) = l[i] := by rw [← e]; omega
    simp [this]
  · rw [if_neg hj, decide_eq_decide]
    have : ¬ (j : Int) = l[i] := by rw [← e]; omega
    simp [this]
theorem up_id {α : Type} {f : Nat → α} {k : Nat} {v : α} (h : f k = v) : up f k v = f := by
  funext j; unfold up; split
  · rename_i e; rw [e, h]
  · rfl
theorem up_self {α : Type} (f : Nat → α) (k : Nat) : up f k (f k) = f := up_id rfl
theorem up_up {α : Type} (f : Nat → α) (k : Nat) (u v : α) : up (up f k u) k v = up f k v := by
  funext j; unfold up; split <;> rfl
theorem iis_set_m1 {i n : Nat} : iis n (up (fun j => if j < i then (-1 : Int) else 0) i (-1)) = iis n (fun j => if j < i + 1 then (-1 : Int) else 0) := by
  congr 1
  funext j
  unfold up
  by_cases hj : j = i
  · subst hj; simp
  · rw [if_neg hj]
    show (if j < i then (-1 : Int) else 0) = if j < i + 1 then (-1 : Int) else 0
    by_cases h : j < i
    · rw [if_pos h, if_pos (by omega)]
    · rw [if_neg h, if_neg (by omega)]
theorem iis_congr {n : Nat} {f g : Nat → Int} (h : ∀ j, j < n → f j = g j) : iis n f = iis n g := by
  unfold iis; apply List.map_congr_left; intro j hj; rw [h j (List.mem_range.1 hj)]
theorem slc2_congr {n : Nat} {A A' : Nat → Option Addr} {l l' c c' : Nat → Nat} (h : ∀ j, j < n → A j = A' j ∧ l j = l' j ∧ c j = c' j) : slc2 n A l c = slc2 n A' l' c' := by
  unfold slc2; apply List.map_congr_left; intro j hj; obtain ⟨h1, h2, h3⟩ := h j (List.mem_range.1 hj); rw [h1, h2, h3]
theorem rows_congr {Et n : Nat} {A A' : Nat → Option Addr} {l l' c c' : Nat → Nat} {xs xs' : Nat → List Value} (h : ∀ j, j < n → A j = A' j ∧ l j = l' j ∧ c j = c' j ∧ xs j = xs' j) : HP.rows Et n A l c xs = HP.rows Et n A' l' c' xs' := by
  unfold HP.rows; congr 1; apply List.map_congr_left; intro j hj; obtain ⟨h1, h2, h3, h4⟩ := h j (List.mem_range.1 hj); rw [h1, h2, h3, h4]
theorem slc2_snocN (m N : Nat) (A : Nat → Option Addr) (u : Nat → Nat) (A' : Option Addr) (c' : Nat) : slc2 m A (fun _ => N) u ++ [.slice A' N c'] = slc2 (m + 1) (up A m A') (fun _ => N) (up u m c') := by
  rw [slc2_snoc, up_id rfl]

/-! ### Some x -/
def HP.ex {α : Type} (f : α → HP) : HP := ⟨fun S w => ∃ x, (f x).sem S w, fun S w w' h ⟨x, hx⟩ => ⟨x, (f x).loc S w w' h hx⟩⟩

section
variable {P : Program} {n : Fr} {w0 : World} {F : Nat → Prop} {K : Kt} {l : Env} {H : List HP} {o : Oper}
theorem CW.exout {c : Code} {α : Type} {f : α → HP} {H1 : List HP} (i : Nat) (hi : sel H i = some (HP.ex f, H1)) (k : ∀ x, CW P n w0 F c K l (f x :: H1)) : CW P n w0 F c K l H := fun a w ha hw => by
  have h1 := hw.sel hi
  obtain ⟨S, ⟨x, g1⟩, g2, g3⟩ := h1.chunks
  exact k x a w ha { h1 with chunks := ⟨S, g1, g2, g3⟩ }
theorem cv_exin {α : Type} {f : α → HP} {H1 : List HP} (i : Nat) (x : α) {p : HP} (hi : sel H i = some (p, H1)) (hp : p = f x) : ∀ w U, Chunks w U H → Chunks w U (HP.ex f :: H1) := fun w U h => by
  subst hp
  obtain ⟨S, g1, g2, g3⟩ := h.perm (sel_perm hi)
  exact ⟨S, ⟨x, g1⟩, g2, g3⟩
theorem cv_trans {H1 H2 : List HP} (h1 : ∀ w U, Chunks w U H → Chunks w U H1) (h2 : ∀ w U, Chunks w U H1 → Chunks w U H2) : ∀ w U, Chunks w U H → Chunks w U H2 := fun w U h => h2 w U (h1 w U h)
theorem cv_open {ps r : List HP} (i : Nat) (hi : sel H i = some (HP.bag ps, r)) : ∀ w U, Chunks w U H → Chunks w U (ps ++ r) := fun w U h => (h.perm (sel_perm hi)).open

/-! ### A slice that holds something has an address -/
theorem CW.row_some {c : Code} {Et sz m cc : Nat} {A : Option Addr} {xs : List Value} {H1 : List HP} (i : Nat) (hi : sel H i = some (HP.row Et sz A m cc xs, H1)) (hm : 0 < m) (k : ∀ B, A = some ⟨B, 0, none⟩ → CW P n w0 F c K l H) : CW P n w0 F c K l H := fun a w ha hw => by
  rcases (hw.row hi).2 with ⟨_, h0⟩ | ⟨g, cap, cur, hv, _⟩
  · omega
  · injection hv with h1 _ _
    exact k g h1 a w ha hw
theorem PV.indexAddrA {t e : TypeId} {x ix : Operand} {ad : Addr} {m c : Nat} {k : IntKind} {i : Int} {j bytes : Nat} {z : Value} (hT : P.underlying t = some (.slice e)) (hI : In P e z 1 bytes)
    (ho : o.op = .indexAddr t x ix) (hx : ev l x = some (.slice (some ad) m c)) (hix : ev l ix = some (.int k i)) (hj : i = (j : Int)) (hlt : j < m) : PV P n w0 F l H o (eptr (some ad) j) := fun a w ha hw => by
  obtain ⟨q, hq, _, hs, _⟩ := hI.parts
  subst hj
  simp [execOp, ho, ha.ev hx, ha.ev hix, Instr.indexAt, asIntOf, run_underlying hT, sizeOf, typeInfo, hq, hs, hlt, eptr, show (0 : Int) ≤ (j : Int) by omega]

/-! ### Rows of rows -/
theorem cv_nils (Et : Nat) : ∀ m, ∀ w U, Chunks w U H → Chunks w U (HP.rows Et m (fun _ => none) (fun _ => 0) (fun _ => 0) (fun _ => []) :: H) := by
  intro m
  induction m with
  | zero => exact fun w U h => h.bag_nil
  | succ m ih =>
    intro w U h
    have h1 := ih w U h
    have h2 : Chunks w U (HP.row Et 1 none 0 0 [] :: HP.rows Et m (fun _ => none) (fun _ => 0) (fun _ => 0) (fun _ => []) :: H) :=
      ⟨fun _ => False, ⟨fun k => by simp [Value.ownBlock], World.ownsRow_nil w 0 Et 1⟩, fun _ hk => hk.elim, h1.congr fun k => by simp⟩
    have h3 := E.rows_snoc h2
    have e : ∀ {α : Type} (v : α), up (fun _ => v) m v = fun _ => v := fun v => up_id rfl
    rw [e, e, e] at h3
    exact h3
def HP.rowsx (Et m : Nat) (A : Nat → Option Addr) (len c : Nat → Nat) (xs : Nat → List Value) (k : Nat) : HP := HP.bag (((List.range m).erase k).map fun j => HP.row Et 1 (A j) (len j) (c j) (xs j))
theorem cv_rows_out {Et m k : Nat} {A : Nat → Option Addr} {len c : Nat → Nat} {xs : Nat → List Value} {H1 : List HP} (i : Nat) (hi : sel H i = some (HP.rows Et m A len c xs, H1)) (hk : k < m) :
    ∀ w U, Chunks w U H → Chunks w U (HP.row Et 1 (A k) (len k) (c k) (xs k) :: HP.rowsx Et m A len c xs k :: H1) := fun w U h => by
  have hp := (List.perm_cons_erase (List.mem_range.2 hk)).map fun j => HP.row Et 1 (A j) (len j) (c j) (xs j)
  exact Chunks.bag_out (Chunks.bag_perm hp (h.perm (sel_perm hi)))
theorem cv_rows_in {Et m k : Nat} {A : Nat → Option Addr} {len c : Nat → Nat} {xs : Nat → List Value} {H1 H2 : List HP} (i j : Nat) {A' : Option Addr} {l' c' : Nat} {ys : List Value} (hi : sel H i = some (HP.row Et 1 A' l' c' ys, H1)) (hj : sel H1 j = some (HP.rowsx Et m A len c xs k, H2)) (hk : k < m) :
    ∀ w U, Chunks w U H → Chunks w U (HP.rows Et m (up A k A') (up len k l') (up c k c') (up xs k ys) :: H2) := fun w U h => by
  have h1 := Chunks.bag_in (h.perm ((sel_perm hi).trans ((sel_perm hj).cons _)))
  refine Chunks.bag_perm ?_ h1
  have hp := (List.perm_cons_erase (List.mem_range.2 hk)).map fun j => HP.row Et 1 (up A k A' j) (up len k l' j) (up c k c' j) (up xs k ys j)
  refine List.Perm.trans ?_ hp.symm
  rw [List.map_cons, up_same, up_same, up_same, up_same]
  have : (((List.range m).erase k).map fun j => HP.row Et 1 (up A k A' j) (up len k l' j) (up c k c' j) (up xs k ys j)) = ((List.range m).erase k).map fun j => HP.row Et 1 (A j) (len j) (c j) (xs j) := by
    apply List.map_congr_left
    intro q hq
    have hne := ((List.Nodup.mem_erase_iff (List.nodup_range)).1 hq).1
    rw [up_ne _ _ hne, up_ne _ _ hne, up_ne _ _ hne, up_ne _ _ hne]
  rw [this]
theorem cv_rows_snocN {Et m N : Nat} {A : Nat → Option Addr} {c : Nat → Nat} {xs : Nat → List Value} {H1 H2 : List HP} (i j : Nat) {A' : Option Addr} {c' : Nat} {ys : List Value} (hi : sel H i = some (HP.row Et 1 A' N c' ys, H1)) (hj : sel H1 j = some (HP.rows Et m A (fun _ => N) c xs, H2)) (hy : ys = xs m) :
    ∀ w U, Chunks w U H → Chunks w U (HP.rows Et (m + 1) (up A m A') (fun _ => N) (up c m c') xs :: H2) := fun w U h => by
  subst hy
  have h1 := E.rows_snoc (h.perm ((sel_perm hi).trans ((sel_perm hj).cons _)))
  rw [up_id (f := fun _ => N) rfl, up_self] at h1
  exact h1
theorem cv_snocN {Et m N q cc : Nat} {B : Option Addr} {A : Nat → Option Addr} {u : Nat → Nat} {A' : Option Addr} {c' : Nat} {H1 : List HP} (i : Nat) (hi : sel H i = some (HP.row Et 1 B q cc (slc2 m A (fun _ => N) u ++ [.slice A' N c']), H1)) (hq : q = m + 1) :
    ∀ w U, Chunks w U H → Chunks w U (HP.row Et 1 B (m + 1) cc (slc2 (m + 1) (up A m A') (fun _ => N) (up u m c')) :: H1) := by
  subst hq
  exact cv_chunk i _ hi (by rw [slc2_snocN])
end
/-! ### The neighbours of a place, as they are found -/
/-- the rows up to i are done, the others hold nothing. -/
structure NA (x : Bf.G) (i : Nat) (Xn : Nat → Option Addr) (ln un : Nat → Nat) (xs : Nat → List Value) : Prop where
  d : ∀ j, j < i → ln j = (x.nr j).length ∧ xs j = ints (nn x j)
  o : ∀ j, i ≤ j → Xn j = none ∧ ln j = 0 ∧ un j = 0 ∧ xs j = []
theorem NA.start (x : Bf.G) : NA x 0 (fun _ => none) (fun _ => 0) (fun _ => 0) (fun _ => []) := ⟨fun j h => by omega, fun j _ => ⟨rfl, rfl, rfl, rfl⟩⟩
theorem NA.next {x : Bf.G} {i : Nat} {Xn : Nat → Option Addr} {ln un : Nat → Nat} {xs : Nat → List Value} (h : NA x i Xn ln un xs) (A : Option Addr) (c : Nat) : NA x (i + 1) (up Xn i A) (up ln i (nn x i).length) (up un i c) (up xs i (ints (nn x i))) := by
  refine ⟨fun j hj => ?_, fun j hj => ?_⟩
  · by_cases e : j = i
    · subst e; rw [up_same, up_same]; simp
    · rw [up_ne _ _ e, up_ne _ _ e]; exact h.d j (by omega)
  · rw [up_ne _ _ (by omega), up_ne _ _ (by omega), up_ne _ _ (by omega), up_ne _ _ (by omega)]; exact h.o j (by omega)
def HP.nb (B8 PB Bp N : Nat) (An : Option Addr) (cs : List Value) (i : Nat) (Xn : Nat → Option Addr) (ln un : Nat → Nat) (xs : Nat → List Value) (pre : List Int) : HP :=
  HP.ex fun (z : Option Addr × Nat) => HP.bag [HP.blk B8 87 [.pointer (some ⟨PB, 0, .none⟩)], HP.blk Bp 3 [.int .i64 (i : Int)], HP.blk PB 93 cs, HP.row 31 1 An N N (slc2 N (up Xn i z.1) (up ln i pre.length) (up un i z.2)), HP.rows 3 N (up Xn i z.1) (up ln i pre.length) (up un i z.2) (up xs i (ints pre))]
section
variable {P : Program} {n : Fr} {w0 : World} {F : Nat → Prop} {K : Kt} {l : Env} {H : List HP} {o : Oper}
variable {B8 PB Bp N : Nat} {An : Option Addr} {cs : List Value} {i : Nat} {Xn : Nat → Option Addr} {ln un : Nat → Nat} {xs : Nat → List Value}
theorem cv_nbin {x : Bf.G} {H2 : List HP} (is : List Nat) (hs : E.sels H is = some (HP.blk B8 87 [.pointer (some ⟨PB, 0, .none⟩)] :: HP.blk Bp 3 [.int .i64 (i : Int)] :: HP.blk PB 93 cs :: HP.row 31 1 An N N (slc2 N Xn ln un) :: HP.rows 3 N Xn ln un xs :: H2)) (h : NA x i Xn ln un xs) :
    ∀ w U, Chunks w U H → Chunks w U (HP.nb B8 PB Bp N An cs i Xn ln un xs [] :: H2) := by
  obtain ⟨h1, h2, h3, h4⟩ := h.o i (Nat.le_refl _)
  intro w U hc
  obtain ⟨S, g1, g2, g3⟩ := Chunks.gather (ps := [_, _, _, _, _]) (r := H2) (sels_chunks hs hc)
  refine ⟨S, ⟨(none, 0), ?_⟩, g2, g3⟩
  simp only [List.length_nil, up_id h1, up_id h2, up_id h3, up_id (show xs i = ints [] from h4)]
  exact g1
theorem CW.nbout {c : Code} {pre : List Int} {H1 : List HP} (hi : H = HP.nb B8 PB Bp N An cs i Xn ln un xs pre :: H1) (hN : i < N)
    (k : ∀ A u, CW P n w0 F c K l (HP.row 3 1 A pre.length u (ints pre) :: HP.rowsx 3 N (up Xn i A) (up ln i pre.length) (up un i u) (up xs i (ints pre)) i :: HP.blk B8 87 [.pointer (some ⟨PB, 0, .none⟩)] :: HP.blk Bp 3 [.int .i64 (i : Int)] :: HP.blk PB 93 cs :: HP.row 31 1 An N N (slc2 N (up Xn i A) (up ln i pre.length) (up un i u)) :: H1)) : CW P n w0 F c K l H := by
  subst hi
  refine CW.exout 0 rfl fun z => ?_
  refine CW.open 0 rfl ?_
  refine CW.conv (cv_rows_out (k := i) 4 rfl hN) ?_
  rw [up_same, up_same, up_same, up_same]
  exact k z.1 z.2
theorem CW.nbend {c : Code} {pre : List Int} {H1 : List HP} (hi : H = HP.nb B8 PB Bp N An cs i Xn ln un xs pre :: H1)
    (k : ∀ A u, CW P n w0 F c K l (HP.blk B8 87 [.pointer (some ⟨PB, 0, .none⟩)] :: HP.blk Bp 3 [.int .i64 (i : Int)] :: HP.blk PB 93 cs :: HP.row 31 1 An N N (slc2 N (up Xn i A) (up ln i pre.length) (up un i u)) :: HP.rows 3 N (up Xn i A) (up ln i pre.length) (up un i u) (up xs i (ints pre)) :: H1)) : CW P n w0 F c K l H := by
  subst hi
  exact CW.exout 0 rfl fun z => CW.open 0 rfl (k z.1 z.2)
theorem cv_nbback {pre post : List Int} {m : Nat} {ys : List Value} {A A' : Option Addr} {u u' : Nat} {H2 : List HP} (is : List Nat) (hN : i < N) (hm : m = post.length) (hy : ys = ints post)
    (hs : E.sels H is = some (HP.row 3 1 A' m u' ys :: HP.rowsx 3 N (up Xn i A) (up ln i pre.length) (up un i u) (up xs i (ints pre)) i :: HP.blk B8 87 [.pointer (some ⟨PB, 0, .none⟩)] :: HP.blk Bp 3 [.int .i64 (i : Int)] :: HP.blk PB 93 cs :: HP.row 31 1 An N N (slc2 N (up (up Xn i A) i A') (up (up ln i pre.length) i m) (up (up un i u) i u')) :: H2)) :
    ∀ w U, Chunks w U H → Chunks w U (HP.nb B8 PB Bp N An cs i Xn ln un xs post :: H2) := by
  subst hm hy
  intro w U hc
  have h1 := cv_rows_in 0 0 rfl rfl hN w U (sels_chunks hs hc)
  simp only [up_up] at h1
  have h2 := h1.perm (H' := HP.blk B8 87 [.pointer (some ⟨PB, 0, .none⟩)] :: HP.blk Bp 3 [.int .i64 (i : Int)] :: HP.blk PB 93 cs :: HP.row 31 1 An N N (slc2 N (up Xn i A') (up ln i post.length) (up un i u')) :: HP.rows 3 N (up Xn i A') (up ln i post.length) (up un i u') (up xs i (ints post)) :: H2)
    ((List.Perm.swap _ _ _).trans (((List.Perm.swap _ _ _).trans (((List.Perm.swap _ _ _).trans (((List.Perm.swap _ _ _)).cons _)).cons _)).cons _))
  obtain ⟨S, g1, g2, g3⟩ := Chunks.gather (ps := [_, _, _, _, _]) (r := H2) h2
  exact ⟨S, ⟨(A', u'), g1⟩, g2, g3⟩
end
end E
end Go.Proofs.Ytflkbabhbnmajaa

/- Closed facts on the program (printed by gen.py). -/
namespace Go.Proofs.Ytflkbabhbnmajaa
open Go Go.RowKit
set_option linter.unusedSimpArgs false
set_option linter.unusedVariables false
theorem bld93_0_1_4 (x0 : Int) (x1 : Option Addr) (m1 c1 : Nat) (x2 : Option Addr) (m2 c2 : Nat) (w : World) : (Instr.build 93 #[(0, .int .i64 x0), (1, .slice x1 m1 c1), (4, .slice x2 m2 c2)]).run Try.prog w = .ok (.agg #[.int .i64 x0, .slice x1 m1 c1, .slice none 0 0, .slice none 0 0, .slice x2 m2 c2]) w := by kernel_rfl

theorem bsl90_1_0 (x0 : Option Addr) (m0 c0 : Nat) (w : World) : (Instr.buildSlice 90 1 #[(0, .slice x0 m0 c0)]).run Try.prog w = .ok (.slice (some ⟨w.heap.size, 0, none⟩) 1 1) (w.alloc (.cells #[.slice x0 m0 c0] 89)) := by kernel_rfl

theorem bsl91_1_0 (x0 : Option Addr) (m0 c0 : Nat) (w : World) : (Instr.buildSlice 91 1 #[(0, .slice x0 m0 c0)]).run Try.prog w = .ok (.slice (some ⟨w.heap.size, 0, none⟩) 1 1) (w.alloc (.cells #[.slice x0 m0 c0] 31)) := by kernel_rfl

theorem in87 : E.In Try.prog 87 (.pointer none) 1 8 := by unfold E.In; kernel_rfl

theorem in90 : E.In Try.prog 90 (.slice none 0 0) 1 24 := by unfold E.In; kernel_rfl

theorem in91 : E.In Try.prog 91 (.slice none 0 0) 1 24 := by unfold E.In; kernel_rfl

theorem nm101 : E.Nm Try.prog 101 := ⟨Try.f101, Try.func101, rfl, by kernel_rfl⟩

theorem nm103 : E.Nm Try.prog 103 := ⟨Try.f103, Try.func103, rfl, by kernel_rfl⟩

theorem nm126 : E.Nm Try.prog 126 := ⟨Try.f126, Try.func126, rfl, by kernel_rfl⟩
end Go.Proofs.Ytflkbabhbnmajaa

/- Walks (printed by gen.py). -/
namespace Go.Proofs.Ytflkbabhbnmajaa
open Go Go.RowKit
set_option linter.unusedSimpArgs false
set_option linter.unusedVariables false

set_option maxRecDepth 100000 in
theorem np_ok (g : E.Cfg) (t a b : Int) (w0 : World) (hg : g.rd w0 (E.Old w0)) (hgf : g.q.fit) (hL : Rt.Leg g.q t a b) :
    Calls Try.prog 59 #[g.v, .int .i64 t, .agg #[.int .i64 a, .int .i64 b]] w0 (E.Post w0 (E.Old w0) fun v Hn => ∃ (y : E.Pl) (D : Bf.DD), v = y.v ∧ Hn = [E.HP.plan y D] ∧ y.x = (Rt.G g.q t a b) ∧ ∀ k p, k < y.x.K → p < y.x.n → y.x.cell p = true → Bf.Ar y.x k p (D k p)) := by
  obtain ⟨hX1, hX2, hX3, hX4⟩ := id hg
  have hgl := E.Cfg.fit_len hgf
  obtain ⟨ht0, ht3, htn⟩ := hL.ten
  have htl : t.toNat < g.ts.length := by rw [← E.Cfg.ts_len g]; exact htn
  have hn64 : g.l.length ≤ 64 := Rt.len_le hL.c
  have hs16 : 1 ≤ g.s.length ∧ g.s.length ≤ 16 := Rt.per_of hL.c
  have hra : 0 ≤ a ∧ a < (g.l.length : Int) := hL.ra
  have hrb : 0 ≤ b ∧ b < (g.l.length : Int) := hL.rb
  have hsp : Rt.team g.q t = (g.ts.getD t.toNat E.Tm.z).q := E.Cfg.ts_getD g _
  have hspl := Rt.spots_small hL
  rw [hsp] at hspl
  refine E.calls_of_m (vs := [g.v, .int .i64 t, .agg #[.int .i64 a, .int .i64 b]]) (H := []) Try.func59 Try.ntmps59 rfl rfl (E.HA.start w0) ?_
  refine E.CW.seq ?_
  refine E.CW.region ?_
  refine E.OW.box rfl rfl rfl rfl rfl rfl (fun B1 => ?_)
  refine E.OW.box rfl rfl rfl rfl rfl rfl (fun B2 => ?_)
  refine E.OW.pure rfl rfl rfl (E.PV.assign rfl rfl) ?_
  refine E.OW.nil ?_
  refine E.then_n ?_
  refine E.CW.seq ?_
  refine E.CW.region ?_
  refine E.OW.pure rfl rfl rfl (E.PV.fieldAddr fa28_0 rfl rfl) ?_
  refine E.OW.pure rfl rfl rfl (E.PV.fieldAddr fa24_2 rfl rfl) ?_
  refine E.OW.pure rfl rfl rfl (E.PV.load (i := 1) na22 rfl rfl rfl rfl) ?_
  refine E.OW.pure rfl rfl rfl (E.PV.len Try.underlying22 rfl rfl) ?_
  refine E.OW.pure rfl rfl rfl (E.PV.assign rfl rfl) ?_
  refine E.OW.nil ?_
  refine E.then_n ?_
  refine E.CW.cut [1, 3, 5, 7, 9999] 0 rfl rfl (fun mods Hm => ∃ Ac : Option Addr, ∃ An : Option Addr, ∃ PB : Nat, ∃ B8 : Nat, mods = [(8, .pointer (some ⟨B8, 0, none⟩))] ∧ Hm = [E.HP.blk B8 87 [.pointer (some ⟨PB, 0, .none⟩)], E.HP.blk PB 93 [.int .i64 (g.s.length : Int), .slice Ac g.l.length g.l.length, .slice none 0 0, .slice none 0 0, .slice An g.l.length g.l.length], E.HP.row 4 1 Ac g.l.length g.l.length (E.bls g.l.length (fun _ => false)), E.HP.row 31 1 An g.l.length g.l.length (E.slc2 g.l.length (fun _ => none) (fun _ => 0) (fun _ => 0))] ∧ True) ?_ ?_
  · skip
    refine E.CW.drawx mixed [1] rfl ?_
    all_goals (refine E.AW.first 0 rfl (by kernel_rfl) (by kernel_rfl) (by kernel_rfl) rfl rfl rfl (E.PV.fieldAddr fa28_1 rfl rfl) ?_)
    all_goals (refine E.AW.first 1 rfl (by kernel_rfl) (by kernel_rfl) (by kernel_rfl) rfl rfl rfl (E.PV.load (i := 0) na22 rfl rfl rfl rfl) ?_)
    all_goals (refine E.AW.first 2 rfl (by kernel_rfl) (by kernel_rfl) (by kernel_rfl) rfl rfl rfl (E.PV.len Try.underlying22 rfl rfl) ?_)
    all_goals (refine E.AW.first 3 rfl (by kernel_rfl) (by kernel_rfl) (by kernel_rfl) rfl rfl rfl (E.PV.move rfl rfl) ?_)
    all_goals (refine E.AW.first 5 rfl (by kernel_rfl) (by kernel_rfl) (by kernel_rfl) rfl rfl rfl (E.PV.move rfl rfl) ?_)
    all_goals (
      refine E.AW.three 4 6 9 (by kernel_rfl) rfl rfl rfl ?ga1 ?gb1 ?gc1
      case' ga1 =>
          all_goals (refine E.OW.make_bl _ Try.underlying89 in4 rfl rfl rfl rfl rfl rfl rfl ?_ ?_ (fun A3 => ?_); (focus (unfold maxLen; omega)); (focus (omega)))
          all_goals (first | (refine E.AW.nil [1] rfl ?_) | (refine E.AW.nil [2] rfl ?_) | (refine E.AW.nil [3] rfl ?_) | (refine E.AW.nil [4] rfl ?_) | (refine E.AW.nil [5] rfl ?_) | (refine E.AW.nil [6] rfl ?_) | (refine E.AW.nil [7] rfl ?_) | (refine E.AW.nil [0] rfl ?_) | (refine E.AW.nil [0] rfl ?_))
          all_goals (
            refine E.AW.two 6 9 (by kernel_rfl) rfl rfl ?ga2 ?gb2
            case' ga2 =>
                all_goals (refine E.OW.make_s2 _ Try.underlying91 in31 rfl rfl rfl rfl rfl rfl rfl ?_ ?_ (fun A4 => ?_); (focus (unfold maxLen; omega)); (focus (omega)))
                all_goals (first | (refine E.AW.nil [1] rfl ?_) | (refine E.AW.nil [2] rfl ?_) | (refine E.AW.nil [3] rfl ?_) | (refine E.AW.nil [4] rfl ?_) | (refine E.AW.nil [5] rfl ?_) | (refine E.AW.nil [6] rfl ?_) | (refine E.AW.nil [7] rfl ?_) | (refine E.AW.nil [0] rfl ?_) | (refine E.AW.nil [0] rfl ?_))
                all_goals (refine E.AW.first 7 rfl (by kernel_rfl) (by kernel_rfl) (by kernel_rfl) rfl rfl rfl (E.PV.build (ps := [(0, .tmp 29), (1, .tmp 31), (4, .tmp 33)]) rfl rfl (fun w => bld93_0_1_4 _ _ _ _ _ _ _ w)) ?_)
                all_goals (
                  refine E.AW.two 8 9 (by kernel_rfl) rfl rfl ?ga3 ?gb3
                  case' ga3 =>
                      all_goals (refine E.OW.box rfl rfl rfl rfl rfl rfl (fun B5 => ?_))
                      all_goals (first | (refine E.AW.nil [1] rfl ?_) | (refine E.AW.nil [2] rfl ?_) | (refine E.AW.nil [3] rfl ?_) | (refine E.AW.nil [4] rfl ?_) | (refine E.AW.nil [5] rfl ?_) | (refine E.AW.nil [6] rfl ?_) | (refine E.AW.nil [7] rfl ?_) | (refine E.AW.nil [0] rfl ?_) | (refine E.AW.nil [0] rfl ?_))
                      all_goals (refine E.AW.one 9 (by kernel_rfl) rfl ?_)
                      all_goals (refine E.OW.alloc (in87.zr) rfl rfl rfl rfl rfl (fun B6 => ?_))
                      all_goals (first | (refine E.AW.nil [1] rfl ?_) | (refine E.AW.nil [2] rfl ?_) | (refine E.AW.nil [3] rfl ?_) | (refine E.AW.nil [4] rfl ?_) | (refine E.AW.nil [5] rfl ?_) | (refine E.AW.nil [6] rfl ?_) | (refine E.AW.nil [7] rfl ?_) | (refine E.AW.nil [0] rfl ?_) | (refine E.AW.nil [0] rfl ?_))
                      all_goals (refine E.AW.one 10 (by kernel_rfl) rfl ?_)
                      all_goals (refine E.OW.store (i := 0) in87.size rfl rfl rfl rfl rfl rfl rfl rfl rfl ?_)
                      all_goals (first | (refine E.AW.nil [1] rfl ?_) | (refine E.AW.nil [2] rfl ?_) | (refine E.AW.nil [3] rfl ?_) | (refine E.AW.nil [4] rfl ?_) | (refine E.AW.nil [5] rfl ?_) | (refine E.AW.nil [6] rfl ?_) | (refine E.AW.nil [7] rfl ?_) | (refine E.AW.nil [0] rfl ?_) | (refine E.AW.nil [0] rfl ?_))
                      all_goals (refine E.AW.done (by kernel_rfl) ?_)
                  case' gb3 =>
                      all_goals (refine E.OW.alloc (in87.zr) rfl rfl rfl rfl rfl (fun B7 => ?_))
                      all_goals (first | (refine E.AW.nil [1] rfl ?_) | (refine E.AW.nil [2] rfl ?_) | (refine E.AW.nil [3] rfl ?_) | (refine E.AW.nil [4] rfl ?_) | (refine E.AW.nil [5] rfl ?_) | (refine E.AW.nil [6] rfl ?_) | (refine E.AW.nil [7] rfl ?_) | (refine E.AW.nil [0] rfl ?_) | (refine E.AW.nil [0] rfl ?_))
                      all_goals (refine E.AW.one 8 (by kernel_rfl) rfl ?_)
                      all_goals (refine E.OW.box rfl rfl rfl rfl rfl rfl (fun B8 => ?_))
                      all_goals (first | (refine E.AW.nil [1] rfl ?_) | (refine E.AW.nil [2] rfl ?_) | (refine E.AW.nil [3] rfl ?_) | (refine E.AW.nil [4] rfl ?_) | (refine E.AW.nil [5] rfl ?_) | (refine E.AW.nil [6] rfl ?_) | (refine E.AW.nil [7] rfl ?_) | (refine E.AW.nil [0] rfl ?_) | (refine E.AW.nil [0] rfl ?_))
                      all_goals (refine E.AW.one 10 (by kernel_rfl) rfl ?_)
                      all_goals (refine E.OW.store (i := 1) in87.size rfl rfl rfl rfl rfl rfl rfl rfl rfl ?_)
                      all_goals (first | (refine E.AW.nil [1] rfl ?_) | (refine E.AW.nil [2] rfl ?_) | (refine E.AW.nil [3] rfl ?_) | (refine E.AW.nil [4] rfl ?_) | (refine E.AW.nil [5] rfl ?_) | (refine E.AW.nil [6] rfl ?_) | (refine E.AW.nil [7] rfl ?_) | (refine E.AW.nil [0] rfl ?_) | (refine E.AW.nil [0] rfl ?_))
                      all_goals (refine E.AW.done (by kernel_rfl) ?_))
            case' gb2 =>
                all_goals (refine E.OW.alloc (in87.zr) rfl rfl rfl rfl rfl (fun B9 => ?_))
                all_goals (first | (refine E.AW.nil [1] rfl ?_) | (refine E.AW.nil [2] rfl ?_) | (refine E.AW.nil [3] rfl ?_) | (refine E.AW.nil [4] rfl ?_) | (refine E.AW.nil [5] rfl ?_) | (refine E.AW.nil [6] rfl ?_) | (refine E.AW.nil [7] rfl ?_) | (refine E.AW.nil [0] rfl ?_) | (refine E.AW.nil [0] rfl ?_))
                all_goals (refine E.AW.one 6 (by kernel_rfl) rfl ?_)
                all_goals (refine E.OW.make_s2 _ Try.underlying91 in31 rfl rfl rfl rfl rfl rfl rfl ?_ ?_ (fun A10 => ?_); (focus (unfold maxLen; omega)); (focus (omega)))
                all_goals (first | (refine E.AW.nil [1] rfl ?_) | (refine E.AW.nil [2] rfl ?_) | (refine E.AW.nil [3] rfl ?_) | (refine E.AW.nil [4] rfl ?_) | (refine E.AW.nil [5] rfl ?_) | (refine E.AW.nil [6] rfl ?_) | (refine E.AW.nil [7] rfl ?_) | (refine E.AW.nil [0] rfl ?_) | (refine E.AW.nil [0] rfl ?_))
                all_goals (refine E.AW.first 7 rfl (by kernel_rfl) (by kernel_rfl) (by kernel_rfl) rfl rfl rfl (E.PV.build (ps := [(0, .tmp 29), (1, .tmp 31), (4, .tmp 33)]) rfl rfl (fun w => bld93_0_1_4 _ _ _ _ _ _ _ w)) ?_)
                all_goals (refine E.AW.one 8 (by kernel_rfl) rfl ?_)
                all_goals (refine E.OW.box rfl rfl rfl rfl rfl rfl (fun B11 => ?_))
                all_goals (first | (refine E.AW.nil [1] rfl ?_) | (refine E.AW.nil [2] rfl ?_) | (refine E.AW.nil [3] rfl ?_) | (refine E.AW.nil [4] rfl ?_) | (refine E.AW.nil [5] rfl ?_) | (refine E.AW.nil [6] rfl ?_) | (refine E.AW.nil [7] rfl ?_) | (refine E.AW.nil [0] rfl ?_) | (refine E.AW.nil [0] rfl ?_))
                all_goals (refine E.AW.one 10 (by kernel_rfl) rfl ?_)
                all_goals (refine E.OW.store (i := 2) in87.size rfl rfl rfl rfl rfl rfl rfl rfl rfl ?_)
                all_goals (first | (refine E.AW.nil [1] rfl ?_) | (refine E.AW.nil [2] rfl ?_) | (refine E.AW.nil [3] rfl ?_) | (refine E.AW.nil [4] rfl ?_) | (refine E.AW.nil [5] rfl ?_) | (refine E.AW.nil [6] rfl ?_) | (refine E.AW.nil [7] rfl ?_) | (refine E.AW.nil [0] rfl ?_) | (refine E.AW.nil [0] rfl ?_))
                all_goals (refine E.AW.done (by kernel_rfl) ?_))
      case' gb1 =>
          all_goals (refine E.OW.make_s2 _ Try.underlying91 in31 rfl rfl rfl rfl rfl rfl rfl ?_ ?_ (fun A12 => ?_); (focus (unfold maxLen; omega)); (focus (omega)))
          all_goals (first | (refine E.AW.nil [1] rfl ?_) | (refine E.AW.nil [2] rfl ?_) | (refine E.AW.nil [3] rfl ?_) | (refine E.AW.nil [4] rfl ?_) | (refine E.AW.nil [5] rfl ?_) | (refine E.AW.nil [6] rfl ?_) | (refine E.AW.nil [7] rfl ?_) | (refine E.AW.nil [0] rfl ?_) | (refine E.AW.nil [0] rfl ?_))
          all_goals (
            refine E.AW.two 4 9 (by kernel_rfl) rfl rfl ?ga4 ?gb4
            case' ga4 =>
                all_goals (refine E.OW.make_bl _ Try.underlying89 in4 rfl rfl rfl rfl rfl rfl rfl ?_ ?_ (fun A13 => ?_); (focus (unfold maxLen; omega)); (focus (omega)))
                all_goals (first | (refine E.AW.nil [1] rfl ?_) | (refine E.AW.nil [2] rfl ?_) | (refine E.AW.nil [3] rfl ?_) | (refine E.AW.nil [4] rfl ?_) | (refine E.AW.nil [5] rfl ?_) | (refine E.AW.nil [6] rfl ?_) | (refine E.AW.nil [7] rfl ?_) | (refine E.AW.nil [0] rfl ?_) | (refine E.AW.nil [0] rfl ?_))
                all_goals (refine E.AW.first 7 rfl (by kernel_rfl) (by kernel_rfl) (by kernel_rfl) rfl rfl rfl (E.PV.build (ps := [(0, .tmp 29), (1, .tmp 31), (4, .tmp 33)]) rfl rfl (fun w => bld93_0_1_4 _ _ _ _ _ _ _ w)) ?_)
                all_goals (
                  refine E.AW.two 8 9 (by kernel_rfl) rfl rfl ?ga5 ?gb5
                  case' ga5 =>
                      all_goals (refine E.OW.box rfl rfl rfl rfl rfl rfl (fun B14 => ?_))
                      all_goals (first | (refine E.AW.nil [1] rfl ?_) | (refine E.AW.nil [2] rfl ?_) | (refine E.AW.nil [3] rfl ?_) | (refine E.AW.nil [4] rfl ?_) | (refine E.AW.nil [5] rfl ?_) | (refine E.AW.nil [6] rfl ?_) | (refine E.AW.nil [7] rfl ?_) | (refine E.AW.nil [0] rfl ?_) | (refine E.AW.nil [0] rfl ?_))
                      all_goals (refine E.AW.one 9 (by kernel_rfl) rfl ?_)
                      all_goals (refine E.OW.alloc (in87.zr) rfl rfl rfl rfl rfl (fun B15 => ?_))
                      all_goals (first | (refine E.AW.nil [1] rfl ?_) | (refine E.AW.nil [2] rfl ?_) | (refine E.AW.nil [3] rfl ?_) | (refine E.AW.nil [4] rfl ?_) | (refine E.AW.nil [5] rfl ?_) | (refine E.AW.nil [6] rfl ?_) | (refine E.AW.nil [7] rfl ?_) | (refine E.AW.nil [0] rfl ?_) | (refine E.AW.nil [0] rfl ?_))
                      all_goals (refine E.AW.one 10 (by kernel_rfl) rfl ?_)
                      all_goals (refine E.OW.store (i := 0) in87.size rfl rfl rfl rfl rfl rfl rfl rfl rfl ?_)
                      all_goals (first | (refine E.AW.nil [1] rfl ?_) | (refine E.AW.nil [2] rfl ?_) | (refine E.AW.nil [3] rfl ?_) | (refine E.AW.nil [4] rfl ?_) | (refine E.AW.nil [5] rfl ?_) | (refine E.AW.nil [6] rfl ?_) | (refine E.AW.nil [7] rfl ?_) | (refine E.AW.nil [0] rfl ?_) | (refine E.AW.nil [0] rfl ?_))
                      all_goals (refine E.AW.done (by kernel_rfl) ?_)
                  case' gb5 =>
                      all_goals (refine E.OW.alloc (in87.zr) rfl rfl rfl rfl rfl (fun B16 => ?_))
                      all_goals (first | (refine E.AW.nil [1] rfl ?_) | (refine E.AW.nil [2] rfl ?_) | (refine E.AW.nil [3] rfl ?_) | (refine E.AW.nil [4] rfl ?_) | (refine E.AW.nil [5] rfl ?_) | (refine E.AW.nil [6] rfl ?_) | (refine E.AW.nil [7] rfl ?_) | (refine E.AW.nil [0] rfl ?_) | (refine E.AW.nil [0] rfl ?_))
                      all_goals (refine E.AW.one 8 (by kernel_rfl) rfl ?_)
                      all_goals (refine E.OW.box rfl rfl rfl rfl rfl rfl (fun B17 => ?_))
                      all_goals (first | (refine E.AW.nil [1] rfl ?_) | (refine E.AW.nil [2] rfl ?_) | (refine E.AW.nil [3] rfl ?_) | (refine E.AW.nil [4] rfl ?_) | (refine E.AW.nil [5] rfl ?_) | (refine E.AW.nil [6] rfl ?_) | (refine E.AW.nil [7] rfl ?_) | (refine E.AW.nil [0] rfl ?_) | (refine E.AW.nil [0] rfl ?_))
                      all_goals (refine E.AW.one 10 (by kernel_rfl) rfl ?_)
                      all_goals (refine E.OW.store (i := 1) in87.size rfl rfl rfl rfl rfl rfl rfl rfl rfl ?_)
                      all_goals (first | (refine E.AW.nil [1] rfl ?_) | (refine E.AW.nil [2] rfl ?_) | (refine E.AW.nil [3] rfl ?_) | (refine E.AW.nil [4] rfl ?_) | (refine E.AW.nil [5] rfl ?_) | (refine E.AW.nil [6] rfl ?_) | (refine E.AW.nil [7] rfl ?_) | (refine E.AW.nil [0] rfl ?_) | (refine E.AW.nil [0] rfl ?_))
                      all_goals (refine E.AW.done (by kernel_rfl) ?_))
            case' gb4 =>
                all_goals (refine E.OW.alloc (in87.zr) rfl rfl rfl rfl rfl (fun B18 => ?_))
                all_goals (first | (refine E.AW.nil [1] rfl ?_) | (refine E.AW.nil [2] rfl ?_) | (refine E.AW.nil [3] rfl ?_) | (refine E.AW.nil [4] rfl ?_) | (refine E.AW.nil [5] rfl ?_) | (refine E.AW.nil [6] rfl ?_) | (refine E.AW.nil [7] rfl ?_) | (refine E.AW.nil [0] rfl ?_) | (refine E.AW.nil [0] rfl ?_))
                all_goals (refine E.AW.one 4 (by kernel_rfl) rfl ?_)
                all_goals (refine E.OW.make_bl _ Try.underlying89 in4 rfl rfl rfl rfl rfl rfl rfl ?_ ?_ (fun A19 => ?_); (focus (unfold maxLen; omega)); (focus (omega)))
                all_goals (first | (refine E.AW.nil [1] rfl ?_) | (refine E.AW.nil [2] rfl ?_) | (refine E.AW.nil [3] rfl ?_) | (refine E.AW.nil [4] rfl ?_) | (refine E.AW.nil [5] rfl ?_) | (refine E.AW.nil [6] rfl ?_) | (refine E.AW.nil [7] rfl ?_) | (refine E.AW.nil [0] rfl ?_) | (refine E.AW.nil [0] rfl ?_))
                all_goals (refine E.AW.first 7 rfl (by kernel_rfl) (by kernel_rfl) (by kernel_rfl) rfl rfl rfl (E.PV.build (ps := [(0, .tmp 29), (1, .tmp 31), (4, .tmp 33)]) rfl rfl (fun w => bld93_0_1_4 _ _ _ _ _ _ _ w)) ?_)
                all_goals (refine E.AW.one 8 (by kernel_rfl) rfl ?_)
                all_goals (refine E.OW.box rfl rfl rfl rfl rfl rfl (fun B20 => ?_))
                all_goals (first | (refine E.AW.nil [1] rfl ?_) | (refine E.AW.nil [2] rfl ?_) | (refine E.AW.nil [3] rfl ?_) | (refine E.AW.nil [4] rfl ?_) | (refine E.AW.nil [5] rfl ?_) | (refine E.AW.nil [6] rfl ?_) | (refine E.AW.nil [7] rfl ?_) | (refine E.AW.nil [0] rfl ?_) | (refine E.AW.nil [0] rfl ?_))
                all_goals (refine E.AW.one 10 (by kernel_rfl) rfl ?_)
                all_goals (refine E.OW.store (i := 2) in87.size rfl rfl rfl rfl rfl rfl rfl rfl rfl ?_)
                all_goals (first | (refine E.AW.nil [1] rfl ?_) | (refine E.AW.nil [2] rfl ?_) | (refine E.AW.nil [3] rfl ?_) | (refine E.AW.nil [4] rfl ?_) | (refine E.AW.nil [5] rfl ?_) | (refine E.AW.nil [6] rfl ?_) | (refine E.AW.nil [7] rfl ?_) | (refine E.AW.nil [0] rfl ?_) | (refine E.AW.nil [0] rfl ?_))
                all_goals (refine E.AW.done (by kernel_rfl) ?_))
      case' gc1 =>
          all_goals (refine E.OW.alloc (in87.zr) rfl rfl rfl rfl rfl (fun B21 => ?_))
          all_goals (first | (refine E.AW.nil [1] rfl ?_) | (refine E.AW.nil [2] rfl ?_) | (refine E.AW.nil [3] rfl ?_) | (refine E.AW.nil [4] rfl ?_) | (refine E.AW.nil [5] rfl ?_) | (refine E.AW.nil [6] rfl ?_) | (refine E.AW.nil [7] rfl ?_) | (refine E.AW.nil [0] rfl ?_) | (refine E.AW.nil [0] rfl ?_))
          all_goals (
            refine E.AW.two 4 6 (by kernel_rfl) rfl rfl ?ga6 ?gb6
            case' ga6 =>
                all_goals (refine E.OW.make_bl _ Try.underlying89 in4 rfl rfl rfl rfl rfl rfl rfl ?_ ?_ (fun A22 => ?_); (focus (unfold maxLen; omega)); (focus (omega)))
                all_goals (first | (refine E.AW.nil [1] rfl ?_) | (refine E.AW.nil [2] rfl ?_) | (refine E.AW.nil [3] rfl ?_) | (refine E.AW.nil [4] rfl ?_) | (refine E.AW.nil [5] rfl ?_) | (refine E.AW.nil [6] rfl ?_) | (refine E.AW.nil [7] rfl ?_) | (refine E.AW.nil [0] rfl ?_) | (refine E.AW.nil [0] rfl ?_))
                all_goals (refine E.AW.one 6 (by kernel_rfl) rfl ?_)
                all_goals (refine E.OW.make_s2 _ Try.underlying91 in31 rfl rfl rfl rfl rfl rfl rfl ?_ ?_ (fun A23 => ?_); (focus (unfold maxLen; omega)); (focus (omega)))
                all_goals (first | (refine E.AW.nil [1] rfl ?_) | (refine E.AW.nil [2] rfl ?_) | (refine E.AW.nil [3] rfl ?_) | (refine E.AW.nil [4] rfl ?_) | (refine E.AW.nil [5] rfl ?_) | (refine E.AW.nil [6] rfl ?_) | (refine E.AW.nil [7] rfl ?_) | (refine E.AW.nil [0] rfl ?_) | (refine E.AW.nil [0] rfl ?_))
                all_goals (refine E.AW.first 7 rfl (by kernel_rfl) (by kernel_rfl) (by kernel_rfl) rfl rfl rfl (E.PV.build (ps := [(0, .tmp 29), (1, .tmp 31), (4, .tmp 33)]) rfl rfl (fun w => bld93_0_1_4 _ _ _ _ _ _ _ w)) ?_)
                all_goals (refine E.AW.one 8 (by kernel_rfl) rfl ?_)
                all_goals (refine E.OW.box rfl rfl rfl rfl rfl rfl (fun B24 => ?_))
                all_goals (first | (refine E.AW.nil [1] rfl ?_) | (refine E.AW.nil [2] rfl ?_) | (refine E.AW.nil [3] rfl ?_) | (refine E.AW.nil [4] rfl ?_) | (refine E.AW.nil [5] rfl ?_) | (refine E.AW.nil [6] rfl ?_) | (refine E.AW.nil [7] rfl ?_) | (refine E.AW.nil [0] rfl ?_) | (refine E.AW.nil [0] rfl ?_))
                all_goals (refine E.AW.one 10 (by kernel_rfl) rfl ?_)
                all_goals (refine E.OW.store (i := 3) in87.size rfl rfl rfl rfl rfl rfl rfl rfl rfl ?_)
                all_goals (first | (refine E.AW.nil [1] rfl ?_) | (refine E.AW.nil [2] rfl ?_) | (refine E.AW.nil [3] rfl ?_) | (refine E.AW.nil [4] rfl ?_) | (refine E.AW.nil [5] rfl ?_) | (refine E.AW.nil [6] rfl ?_) | (refine E.AW.nil [7] rfl ?_) | (refine E.AW.nil [0] rfl ?_) | (refine E.AW.nil [0] rfl ?_))
                all_goals (refine E.AW.done (by kernel_rfl) ?_)
            case' gb6 =>
                all_goals (refine E.OW.make_s2 _ Try.underlying91 in31 rfl rfl rfl rfl rfl rfl rfl ?_ ?_ (fun A25 => ?_); (focus (unfold maxLen; omega)); (focus (omega)))
                all_goals (first | (refine E.AW.nil [1] rfl ?_) | (refine E.AW.nil [2] rfl ?_) | (refine E.AW.nil [3] rfl ?_) | (refine E.AW.nil [4] rfl ?_) | (refine E.AW.nil [5] rfl ?_) | (refine E.AW.nil [6] rfl ?_) | (refine E.AW.nil [7] rfl ?_) | (refine E.AW.nil [0] rfl ?_) | (refine E.AW.nil [0] rfl ?_))
                all_goals (refine E.AW.one 4 (by kernel_rfl) rfl ?_)
                all_goals (refine E.OW.make_bl _ Try.underlying89 in4 rfl rfl rfl rfl rfl rfl rfl ?_ ?_ (fun A26 => ?_); (focus (unfold maxLen; omega)); (focus (omega)))
                all_goals (first | (refine E.AW.nil [1] rfl ?_) | (refine E.AW.nil [2] rfl ?_) | (refine E.AW.nil [3] rfl ?_) | (refine E.AW.nil [4] rfl ?_) | (refine E.AW.nil [5] rfl ?_) | (refine E.AW.nil [6] rfl ?_) | (refine E.AW.nil [7] rfl ?_) | (refine E.AW.nil [0] rfl ?_) | (refine E.AW.nil [0] rfl ?_))
                all_goals (refine E.AW.first 7 rfl (by kernel_rfl) (by kernel_rfl) (by kernel_rfl) rfl rfl rfl (E.PV.build (ps := [(0, .tmp 29), (1, .tmp 31), (4, .tmp 33)]) rfl rfl (fun w => bld93_0_1_4 _ _ _ _ _ _ _ w)) ?_)
                all_goals (refine E.AW.one 8 (by kernel_rfl) rfl ?_)
                all_goals (refine E.OW.box rfl rfl rfl rfl rfl rfl (fun B27 => ?_))
                all_goals (first | (refine E.AW.nil [1] rfl ?_) | (refine E.AW.nil [2] rfl ?_) | (refine E.AW.nil [3] rfl ?_) | (refine E.AW.nil [4] rfl ?_) | (refine E.AW.nil [5] rfl ?_) | (refine E.AW.nil [6] rfl ?_) | (refine E.AW.nil [7] rfl ?_) | (refine E.AW.nil [0] rfl ?_) | (refine E.AW.nil [0] rfl ?_))
                all_goals (refine E.AW.one 10 (by kernel_rfl) rfl ?_)
                all_goals (refine E.OW.store (i := 3) in87.size rfl rfl rfl rfl rfl rfl rfl rfl rfl ?_)
                all_goals (first | (refine E.AW.nil [1] rfl ?_) | (refine E.AW.nil [2] rfl ?_) | (refine E.AW.nil [3] rfl ?_) | (refine E.AW.nil [4] rfl ?_) | (refine E.AW.nil [5] rfl ?_) | (refine E.AW.nil [6] rfl ?_) | (refine E.AW.nil [7] rfl ?_) | (refine E.AW.nil [0] rfl ?_) | (refine E.AW.nil [0] rfl ?_))
                all_goals (refine E.AW.done (by kernel_rfl) ?_)))
    all_goals (
      skip
      refine E.then_nf ?_
      first | (refine ⟨[(8, _)], [0, 0, 0, 0, 0, 0, 0], _, ?_, rfl, _, _, _, _, rfl, rfl, trivial⟩; focus (repeat (first | exact E.cov_nil | refine ⟨rfl, ?_⟩)); done) | (refine ⟨[(8, _)], [0, 0, 1, 0, 0, 0, 0], _, ?_, rfl, _, _, _, _, rfl, rfl, trivial⟩; focus (repeat (first | exact E.cov_nil | refine ⟨rfl, ?_⟩)); done))
  · rintro _ _ ⟨Ac, An, PB, B8, rfl, rfl, hI⟩
    refine E.CW.seq ?_
    refine E.CW.row_some 2 rfl (by omega) (fun QC hQC => ?_)
    subst hQC
    refine E.CW.row_some 3 rfl (by omega) (fun QN hQN => ?_)
    subst hQN
    refine E.CW.region ?_
    refine E.OW.pure rfl rfl rfl (E.PV.move rfl rfl) ?_
    refine E.OW.make_bl _ Try.underlying89 in4 rfl rfl rfl rfl rfl rfl rfl ?_ ?_ (fun A28 => ?_); (focus (unfold maxLen; omega)); (focus (omega))
    refine E.OW.pure rfl rfl rfl (E.PV.assign rfl rfl) ?_
    refine E.OW.nil ?_
    refine E.then_n ?_
    refine E.CW.seq ?_
    refine E.CW.seq ?_
    refine E.CW.row_some 0 rfl (by omega) (fun QS hQS => ?_)
    subst hQS
    refine E.CW.region ?_
    refine E.OW.pure rfl rfl rfl (E.PV.fieldAddr fa28_2 rfl rfl) ?_
    refine E.OW.pure rfl rfl rfl (E.PV.load (i := 6) na25 rfl rfl rfl rfl) ?_
    refine E.OW.pure rfl rfl rfl (E.PV.move rfl rfl) ?_
    refine E.OW.pure rfl rfl rfl (E.PV.indexAddr (E.rdc hX3) Try.underlying25 in79 rfl rfl rfl (E.tn ?_) ?_ ?_ (by decide)) ?_; (focus (omega)); (focus (first | (simp; done) | (simp; omega))); (focus (omega))
    refine E.OW.pure rfl rfl rfl (E.PV.load_tm (E.rdc hX3) is79 rfl rfl ?_) ?_; (focus (omega))
    (refine E.OW.call nm100 rfl rfl rfl rfl rfl rfl _ (fun w hw => Sp_ok (g.ts.getD t.toNat E.Tm.z) w (hw.rdm (hg.m _ (E.Tm.mem htl))) (E.Cfg.fit_m hgf _ (E.Tm.mem htl)) (by omega)) ?_; rintro _ _ ⟨AS, cS, rfl, rfl⟩)
    refine E.OW.pure rfl rfl rfl (E.PV.len Try.underlying31 rfl rfl) ?_
    refine E.OW.pure rfl rfl rfl (E.PV.move rfl rfl) ?_
    refine E.OW.nil ?_
    refine E.then_n ?_
    refine E.CW.block ?_
    refine E.CW.sels [1, 0, 0, 0, 0, 0, 0, 0, 0] rfl ?_
    refine E.CW.loopk [1, 3, 5, 7, 8, 9, 43, 44, 9999] 1 rfl rfl (fun mm mods Hm => ∃ i : Nat, mm = (Cf.spots (g.ts.getD t.toNat E.Tm.z).q).length - i ∧ mods = [(45, .int .i64 i)] ∧ Hm = [E.HP.row 4 1 (some ⟨QS, 0, .none⟩) g.l.length g.l.length (E.bls g.l.length (E.inl ((Cf.spots (g.ts.getD t.toNat E.Tm.z).q).take i)))] ∧ i ≤ (Cf.spots (g.ts.getD t.toNat E.Tm.z).q).length) ((Cf.spots (g.ts.getD t.toNat E.Tm.z).q).length) ?_ ?_
    · exact ⟨[(45, _)], (by repeat (first | exact E.cov_nil | refine ⟨rfl, ?_⟩)), 0, rfl, rfl, (by rw [E.inl_zero]; rfl), by omega⟩
    · rintro _ _ _ ⟨i, rfl, rfl, rfl, hi⟩
      refine E.CW.seq ?_
      skip
      refine E.CW.region ?_
      refine E.OW.pure rfl rfl rfl (E.PV.lss rfl rfl rfl) ?_
      refine E.OW.nil ?_
      refine E.then_n ?_
      refine E.CW.seq ?_
      refine E.CW.cond rfl (fun hc => ?_) (fun hc => ?_)
      · simp only [E.b0, E.b1, E.b2, E.b3, E.b4, E.b5, E.b6, E.b7, E.b8, E.b9, E.b10, E.b11, E.b12, E.b13, E.b14, E.b15, E.b16, E.b17, E.b18, E.b19, E.b20, reduceCtorEq] at hc
        all_goals (
          refine E.CW.skip ?_
          refine E.then_n ?_
          refine E.CW.seq ?_
          refine E.CW.block ?_
          refine E.CW.seq ?_
          refine E.CW.region ?_
          refine E.OW.pure rfl rfl rfl (E.PV.indexAddr1 (E.rdr (i := 1) rfl) Try.underlying31 in3 rfl rfl rfl rfl ?_ ?_) ?_; (focus (first | (simp; done) | (simp; omega))); (focus (omega))
          refine E.OW.pure rfl rfl rfl (E.PV.load_int (E.rdr (i := 1) rfl) na3 rfl rfl ?_) ?_; (focus (omega))
          refine E.OW.pure rfl rfl rfl (E.PV.assign rfl rfl) ?_
          refine E.OW.nil ?_
          refine E.then_n ?_
          have hsi := hL.spot (p := (Cf.spots (g.ts.getD t.toNat E.Tm.z).q).getD i 0) (by rw [hsp]; exact Rt.getD_mem (by omega))
          obtain ⟨⟨hsi0, hsi1⟩, _⟩ := hsi
          have hsi2 : (Cf.spots (g.ts.getD t.toNat E.Tm.z).q).getD i 0 < (g.l.length : Int) := hsi1
          refine E.CW.region ?_
          refine E.OW.pure rfl rfl rfl (E.PV.move rfl rfl) ?_
          refine E.OW.pure rfl rfl rfl (E.PV.move rfl rfl) ?_
          refine E.OW.pure rfl rfl rfl (E.PV.indexAddrA Try.underlying89 in4 rfl rfl rfl (E.tn ?_) ?_) ?_; (focus (omega)); (focus (omega))
          refine E.OW.store_bl (i := 0) in4.size rfl rfl rfl rfl rfl rfl ?_ ?_; (focus (omega))
          refine E.OW.nil ?_
          refine E.blk_n ?_
          refine E.then_n ?_
          refine E.CW.region ?_
          refine E.OW.pure rfl rfl rfl (E.PV.add_i64 rfl rfl rfl ?_) ?_; (focus (omega))
          refine E.OW.pure rfl rfl rfl (E.PV.move rfl rfl) ?_
          refine E.OW.nil ?_
          refine E.then_nf ?_
          refine ⟨_, [(45, _)], [0, 0, 0, 0, 0, 0, 0, 0, 0], [_], ?_, by repeat (first | exact E.cov_nil | refine ⟨rfl, ?_⟩), rfl, i + 1, rfl, rfl, (by rw [E.inl_take (by omega) (by omega)]), by omega⟩
          omega)
      · simp only [E.b0, E.b1, E.b2, E.b3, E.b4, E.b5, E.b6, E.b7, E.b8, E.b9, E.b10, E.b11, E.b12, E.b13, E.b14, E.b15, E.b16, E.b17, E.b18, E.b19, E.b20, reduceCtorEq] at hc
        all_goals (
          refine E.CW.exit ?_
          refine E.then_x ?_
          refine E.then_x ?_
          refine E.blk_eq ?_
          refine E.then_n ?_
          refine E.CW.cut [1, 3, 5, 7, 8, 9, 9999] 0 rfl rfl (fun mods Hm => ∃ Ao : Option Addr, ∃ Ai : Option Addr, mods = [(12, .slice Ao g.l.length g.l.length), (13, .slice Ai g.l.length g.l.length)] ∧ Hm = [E.HP.row 4 1 Ao g.l.length g.l.length (E.bls g.l.length (fun _ => false)), E.HP.row 4 1 Ai g.l.length g.l.length (E.bls g.l.length (fun _ => false))] ∧ True) ?_ ?_
          · skip
            refine E.CW.drawx mixed [] rfl ?_
            all_goals (refine E.AW.first 0 rfl (by kernel_rfl) (by kernel_rfl) (by kernel_rfl) rfl rfl rfl (E.PV.move rfl rfl) ?_)
            all_goals (refine E.AW.first 2 rfl (by kernel_rfl) (by kernel_rfl) (by kernel_rfl) rfl rfl rfl (E.PV.move rfl rfl) ?_)
            all_goals (
              refine E.AW.two 1 3 (by kernel_rfl) rfl rfl ?ga7 ?gb7
              case' ga7 =>
                  all_goals (refine E.OW.make_bl _ Try.underlying89 in4 rfl rfl rfl rfl rfl rfl rfl ?_ ?_ (fun A29 => ?_); (focus (unfold maxLen; omega)); (focus (omega)))
                  all_goals (refine E.AW.nil [] rfl ?_)
                  all_goals (refine E.AW.first 4 rfl (by kernel_rfl) (by kernel_rfl) (by kernel_rfl) rfl rfl rfl (E.PV.assign rfl rfl) ?_)
                  all_goals (refine E.AW.one 3 (by kernel_rfl) rfl ?_)
                  all_goals (refine E.OW.make_bl _ Try.underlying89 in4 rfl rfl rfl rfl rfl rfl rfl ?_ ?_ (fun A30 => ?_); (focus (unfold maxLen; omega)); (focus (omega)))
                  all_goals (refine E.AW.nil [] rfl ?_)
                  all_goals (refine E.AW.first 5 rfl (by kernel_rfl) (by kernel_rfl) (by kernel_rfl) rfl rfl rfl (E.PV.assign rfl rfl) ?_)
                  all_goals (refine E.AW.done (by kernel_rfl) ?_)
              case' gb7 =>
                  all_goals (refine E.OW.make_bl _ Try.underlying89 in4 rfl rfl rfl rfl rfl rfl rfl ?_ ?_ (fun A31 => ?_); (focus (unfold maxLen; omega)); (focus (omega)))
                  all_goals (refine E.AW.nil [] rfl ?_)
                  all_goals (refine E.AW.one 1 (by kernel_rfl) rfl ?_)
                  all_goals (refine E.OW.make_bl _ Try.underlying89 in4 rfl rfl rfl rfl rfl rfl rfl ?_ ?_ (fun A32 => ?_); (focus (unfold maxLen; omega)); (focus (omega)))
                  all_goals (refine E.AW.nil [] rfl ?_)
                  all_goals (refine E.AW.first 4 rfl (by kernel_rfl) (by kernel_rfl) (by kernel_rfl) rfl rfl rfl (E.PV.assign rfl rfl) ?_)
                  all_goals (refine E.AW.first 5 rfl (by kernel_rfl) (by kernel_rfl) (by kernel_rfl) rfl rfl rfl (E.PV.assign rfl rfl) ?_)
                  all_goals (refine E.AW.done (by kernel_rfl) ?_))
            all_goals (
              skip
              refine E.then_nf ?_
              first | (refine ⟨[(12, _), (13, _)], [0, 0, 0, 0, 0, 0, 0, 0, 0, 0, 0], _, ?_, rfl, _, _, rfl, rfl, trivial⟩; focus (repeat (first | exact E.cov_nil | refine ⟨rfl, ?_⟩)); done) | (refine ⟨[(12, _), (13, _)], [1, 0, 0, 0, 0, 0, 0, 0, 0, 0, 0], _, ?_, rfl, _, _, rfl, rfl, trivial⟩; focus (repeat (first | exact E.cov_nil | refine ⟨rfl, ?_⟩)); done))
          · rintro _ _ ⟨Ao, Ai, rfl, rfl, hI⟩
            refine E.CW.seq ?_
            refine E.CW.seq ?_
            obtain rfl : i = (Cf.spots (g.ts.getD t.toNat E.Tm.z).q).length := by omega
            refine E.CW.conv (E.cv_chunk 2 (E.HP.row 4 1 (some ⟨QS, 0, .none⟩) g.l.length g.l.length (E.bls g.l.length (E.inl (Cf.spots (g.ts.getD t.toNat E.Tm.z).q)))) rfl (by rw [List.take_length])) ?_
            refine E.CW.sels [1, 1, 0, 0, 0, 0, 0, 0, 0, 0, 0] rfl ?_
            refine E.CW.row_some 0 rfl (by omega) (fun QO hQO => ?_)
            subst hQO
            refine E.CW.row_some 1 rfl (by omega) (fun QI hQI => ?_)
            subst hQI
            refine E.CW.conv (E.cv_nils 3 g.l.length) ?_
            refine E.CW.region ?_
            refine E.OW.pure rfl rfl rfl (E.PV.move rfl rfl) ?_
            refine E.OW.pure rfl rfl rfl (E.PV.move rfl rfl) ?_
            refine E.OW.nil ?_
            refine E.then_n ?_
            refine E.CW.block ?_
            refine E.CW.sels [1, 1, 5, 5, 0, 6, 0, 1, 1, 1, 1] rfl ?_
            refine E.CW.loopk [1, 3, 5, 7, 8, 9, 12, 13, 57] 6 rfl rfl (fun mm mods Hm => ∃ i : Nat, ∃ Xn : Nat → Option Addr, ∃ ln : Nat → Nat, ∃ un : Nat → Nat, ∃ xs : Nat → List Value, ∃ ds : List Nat, mm = g.l.length - i ∧ mods = [(58, .int .i64 i), (9999, E.marks ds)] ∧ Hm = [E.HP.row 4 1 (some ⟨QO, 0, .none⟩) g.l.length g.l.length (E.bls g.l.length (E.ltb i (fun j => Rt.mine g.q t (j : Int)))), E.HP.row 4 1 (some ⟨QI, 0, .none⟩) g.l.length g.l.length (E.bls g.l.length (E.ltb i (fun j => Rt.aisle g.q (j : Int)))), E.HP.row 4 1 (some ⟨QC, 0, .none⟩) g.l.length g.l.length (E.bls g.l.length (E.ltb i (fun j => Rt.has g.q t a b (j : Int)))), E.HP.row 31 1 (some ⟨QN, 0, .none⟩) g.l.length g.l.length (E.slc2 g.l.length Xn ln un), E.HP.rows 3 g.l.length Xn ln un xs, E.HP.marks ds] ∧ (i ≤ g.l.length ∧ E.NA (Rt.G g.q t a b) i Xn ln un xs)) (g.l.length) ?_ ?_
            · exact ⟨[(58, _), (9999, _)], (by repeat (first | exact E.cov_nil | refine ⟨rfl, ?_⟩)), 0, _, _, _, _, _, rfl, rfl, (by rw [← E.ltb_zero, ← E.ltb_zero, ← E.ltb_zero]), by omega, E.NA.start _⟩
            · rintro _ _ _ ⟨i, Xn, ln, un, xs, ds, rfl, rfl, rfl, hi, hNA⟩
              refine E.CW.seq ?_
              refine E.CW.region ?_
              refine E.OW.pure rfl rfl rfl (E.PV.lss rfl rfl rfl) ?_
              refine E.OW.nil ?_
              refine E.then_n ?_
              refine E.CW.seq ?_
              refine E.CW.cond rfl (fun hc => ?_) (fun hc => ?_)
              · simp only [E.b0, E.b1, E.b2, E.b3, E.b4, E.b5, E.b6, E.b7, E.b8, E.b9, E.b10, E.b11, E.b12, E.b13, E.b14, E.b15, E.b16, E.b17, E.b18, E.b19, E.b20, reduceCtorEq] at hc
                all_goals (
                  refine E.CW.skip ?_
                  refine E.then_n ?_
                  refine E.CW.seq ?_
                  refine E.CW.block ?_
                  refine E.CW.seq ?_
                  refine E.CW.region ?_
                  refine E.OW.pure rfl rfl rfl (E.PV.move rfl rfl) ?_
                  refine E.OW.alloc (in3.zr) rfl rfl rfl rfl rfl (fun B914 => ?_)
                  refine E.OW.store (i := 0) in3.size rfl rfl rfl rfl rfl rfl rfl rfl rfl ?_
                  refine E.OW.nil ?_
                  refine E.then_n ?_
                  refine E.CW.seq ?_
                  refine E.CW.region ?_
                  refine E.OW.pure rfl rfl rfl (E.PV.loads (i := 11) is28 rfl rfl rfl rfl) ?_
                  refine E.OW.pure rfl rfl rfl (E.PV.load (i := 0) na3 rfl rfl rfl rfl) ?_
                  (refine E.OW.call nm99 rfl rfl rfl rfl rfl rfl _ (fun w hw => Ow_ok _ _ w ?_ ?_) ?_; (focus (refine hw.rdC ?_; assumption)); (focus (assumption)); rintro _ _ ⟨rfl, rfl⟩)
                  refine E.OW.pure rfl rfl rfl (E.PV.assign rfl rfl) ?_
                  refine E.OW.nil ?_
                  refine E.then_n ?_
                  refine E.CW.seq ?_
                  refine E.CW.drawx mixed [0] rfl ?_
                  all_goals (refine E.AW.first 0 rfl (by kernel_rfl) (by kernel_rfl) (by kernel_rfl) rfl rfl rfl (E.PV.move rfl rfl) ?_)
                  all_goals (refine E.AW.first 1 rfl (by kernel_rfl) (by kernel_rfl) (by kernel_rfl) rfl rfl rfl (E.PV.load (i := 0) na3 rfl rfl rfl rfl) ?_)
                  all_goals (refine E.AW.first 2 rfl (by kernel_rfl) (by kernel_rfl) (by kernel_rfl) rfl rfl rfl (E.PV.move rfl rfl) ?_)
                  all_goals (refine E.AW.first 3 rfl (by kernel_rfl) (by kernel_rfl) (by kernel_rfl) rfl rfl rfl (E.PV.load (i := 0) na3 rfl rfl rfl rfl) ?_)
                  all_goals (refine E.AW.first 4 rfl (by kernel_rfl) (by kernel_rfl) (by kernel_rfl) rfl rfl rfl (E.PV.move rfl rfl) ?_)
                  all_goals (refine E.AW.first 5 rfl (by kernel_rfl) (by kernel_rfl) (by kernel_rfl) rfl rfl rfl (E.PV.move rfl rfl) ?_)
                  all_goals (refine E.AW.first 6 rfl (by kernel_rfl) (by kernel_rfl) (by kernel_rfl) rfl rfl rfl (E.PV.eql rfl rfl rfl) ?_)
                  all_goals (refine E.AW.first 7 rfl (by kernel_rfl) (by kernel_rfl) (by kernel_rfl) rfl rfl rfl (E.PV.move rfl rfl) ?_)
                  all_goals (refine E.AW.first 8 rfl (by kernel_rfl) (by kernel_rfl) (by kernel_rfl) rfl rfl rfl (E.PV.eql rfl rfl rfl) ?_)
                  all_goals (refine E.AW.first 9 rfl (by kernel_rfl) (by kernel_rfl) (by kernel_rfl) rfl rfl rfl (E.PV.indexAddrA Try.underlying89 in4 rfl rfl rfl rfl ?_) ?_; (focus (omega)))
                  all_goals (refine E.AW.one 10 (by kernel_rfl) rfl ?_)
                  all_goals (refine E.OW.store_bl (i := 1) in4.size rfl rfl rfl rfl rfl rfl ?_ ?_; (focus (omega)))
                  all_goals (first | (refine E.AW.nil [0] rfl ?_) | (refine E.AW.nil [1] rfl ?_) | (refine E.AW.nil [2] rfl ?_) | (refine E.AW.nil [3] rfl ?_) | (refine E.AW.nil [4] rfl ?_) | (refine E.AW.nil [5] rfl ?_) | (refine E.AW.nil [6] rfl ?_) | (refine E.AW.nil [0] rfl ?_) | (refine E.AW.nil [0] rfl ?_))
                  all_goals (refine E.AW.first 11 rfl (by kernel_rfl) (by kernel_rfl) (by kernel_rfl) rfl rfl rfl (E.PV.indexAddrA Try.underlying89 in4 rfl rfl rfl rfl ?_) ?_; (focus (omega)))
                  all_goals (refine E.AW.one 12 (by kernel_rfl) rfl ?_)
                  all_goals (refine E.OW.store_bl (i := 2) in4.size rfl rfl rfl rfl rfl rfl ?_ ?_; (focus (omega)))
                  all_goals (first | (refine E.AW.nil [0] rfl ?_) | (refine E.AW.nil [1] rfl ?_) | (refine E.AW.nil [2] rfl ?_) | (refine E.AW.nil [3] rfl ?_) | (refine E.AW.nil [4] rfl ?_) | (refine E.AW.nil [5] rfl ?_) | (refine E.AW.nil [6] rfl ?_) | (refine E.AW.nil [0] rfl ?_) | (refine E.AW.nil [0] rfl ?_))
                  all_goals (refine E.AW.conv (E.cv_chunk 0 (E.HP.row 4 1 (some ⟨QI, 0, .none⟩) g.l.length g.l.length (E.bls g.l.length (E.ltb (i + 1) (fun j => Rt.aisle g.q (j : Int))))) rfl (congrArg (fun r => E.HP.row 4 1 (some ⟨QI, 0, .none⟩) g.l.length g.l.length (r)) (E.ltb_set rfl))) ?_)
                  all_goals (refine E.AW.conv (E.cv_chunk 1 (E.HP.row 4 1 (some ⟨QO, 0, .none⟩) g.l.length g.l.length (E.bls g.l.length (E.ltb (i + 1) (fun j => Rt.mine g.q t (j : Int))))) rfl (congrArg (fun r => E.HP.row 4 1 (some ⟨QO, 0, .none⟩) g.l.length g.l.length (r)) (E.ltb_set rfl))) ?_)
                  all_goals (refine E.AW.sels [3, 2, 0, 0, 0, 0, 0, 0, 0, 0, 0, 0] rfl ?_)
                  all_goals (refine E.AW.done (by kernel_rfl) ?_)
                  all_goals (
                    skip
                    refine E.then_n ?_
                    refine E.CW.cut [1, 3, 5, 7, 8, 9, 12, 13, 14, 57, 58, 9999] 1 rfl rfl (fun mods Hm =>  mods = [] ∧ Hm = [E.HP.row 4 1 (some ⟨QC, 0, .none⟩) g.l.length g.l.length (E.bls g.l.length (E.ltb (i + 1) (fun j => Rt.has g.q t a b (j : Int))))] ∧ True) ?_ ?_
                    · skip
                      refine E.CW.drawx mixed [1, 1, 1, 1, 1, 1, 1, 1, 1, 1, 1] rfl ?_
                      all_goals (refine E.AW.first 0 rfl (by kernel_rfl) (by kernel_rfl) (by kernel_rfl) rfl rfl rfl (E.PV.load (i := 7) na87 rfl rfl rfl rfl) ?_)
                      all_goals (refine E.AW.first 1 rfl (by kernel_rfl) (by kernel_rfl) (by kernel_rfl) rfl rfl rfl (E.PV.nilCheck rfl rfl) ?_)
                      all_goals (refine E.AW.first 2 rfl (by kernel_rfl) (by kernel_rfl) (by kernel_rfl) rfl rfl rfl (E.PV.fieldAddr fa93_1 rfl rfl) ?_)
                      all_goals (refine E.AW.first 3 rfl (by kernel_rfl) (by kernel_rfl) (by kernel_rfl) rfl rfl rfl (E.PV.load (i := 8) na89 rfl rfl rfl rfl) ?_)
                      all_goals (refine E.AW.first 4 rfl (by kernel_rfl) (by kernel_rfl) (by kernel_rfl) rfl rfl rfl (E.PV.load (i := 0) na3 rfl rfl rfl rfl) ?_)
                      all_goals (refine E.AW.first 5 rfl (by kernel_rfl) (by kernel_rfl) (by kernel_rfl) rfl rfl rfl (E.PV.load (i := 0) na3 rfl rfl rfl rfl) ?_)
                      all_goals (refine E.AW.first 6 rfl (by kernel_rfl) (by kernel_rfl) (by kernel_rfl) rfl rfl rfl (E.PV.fieldAddr fa30_0 rfl rfl) ?_)
                      all_goals (refine E.AW.first 7 rfl (by kernel_rfl) (by kernel_rfl) (by kernel_rfl) rfl rfl rfl (E.PV.load (i := 9) na3 rfl rfl rfl rfl) ?_)
                      all_goals (refine E.AW.first 8 rfl (by kernel_rfl) (by kernel_rfl) (by kernel_rfl) rfl rfl rfl (E.PV.eql rfl rfl rfl) ?_)
                      all_goals (refine E.AW.first 9 rfl (by kernel_rfl) (by kernel_rfl) (by kernel_rfl) rfl rfl rfl (E.PV.move rfl rfl) ?_)
                      all_goals (refine E.AW.split 84 rfl (fun hc => ?_) (fun hc => ?_) <;> (try simp only [E.b0, E.b1, E.b2, E.b3, E.b4, E.b5, E.b6, E.b7, E.b8, E.b9, E.b10, E.b11, E.b12, E.b13, E.b14, E.b15, E.b16, E.b17, E.b18, E.b19, E.b20, reduceCtorEq] at hc) <;> (try (exfalso; first | assumption | contradiction | omega)))
                      all_goals (first | (refine E.AW.first_off 10 rfl (by kernel_rfl) (by kernel_rfl) (by kernel_rfl) rfl rfl rfl ?_) | (refine E.AW.first 10 rfl (by kernel_rfl) (by kernel_rfl) (by kernel_rfl) rfl rfl rfl (E.PV.load (i := 0) na3 rfl rfl rfl rfl) ?_))
                      all_goals (first | (refine E.AW.first_off 11 rfl (by kernel_rfl) (by kernel_rfl) (by kernel_rfl) rfl rfl rfl ?_) | (refine E.AW.first 11 rfl (by kernel_rfl) (by kernel_rfl) (by kernel_rfl) rfl rfl rfl (E.PV.fieldAddr fa30_1 rfl rfl) ?_))
                      all_goals (first | (refine E.AW.first_off 12 rfl (by kernel_rfl) (by kernel_rfl) (by kernel_rfl) rfl rfl rfl ?_) | (refine E.AW.first 12 rfl (by kernel_rfl) (by kernel_rfl) (by kernel_rfl) rfl rfl rfl (E.PV.load (i := 9) na3 rfl rfl rfl rfl) ?_))
                      all_goals (first | (refine E.AW.first_off 13 rfl (by kernel_rfl) (by kernel_rfl) (by kernel_rfl) rfl rfl rfl ?_) | (refine E.AW.first 13 rfl (by kernel_rfl) (by kernel_rfl) (by kernel_rfl) rfl rfl rfl (E.PV.eql rfl rfl rfl) ?_))
                      all_goals (first | (refine E.AW.first 14 rfl (by kernel_rfl) (by kernel_rfl) (by kernel_rfl) rfl rfl rfl (E.PV.pick_t rfl rfl rfl) ?_) | (refine E.AW.first 14 rfl (by kernel_rfl) (by kernel_rfl) (by kernel_rfl) rfl rfl rfl (E.PV.pick_f rfl rfl rfl) ?_))
                      all_goals (refine E.AW.first 15 rfl (by kernel_rfl) (by kernel_rfl) (by kernel_rfl) rfl rfl rfl (E.PV.move rfl rfl) ?_)
                      all_goals (first | (refine E.AW.put 90 (.bool true) (v := .bool true) rfl rfl ?_) | (refine E.AW.split 90 rfl (fun hc => ?_) (fun hc => ?_) <;> (try simp only [E.b0, E.b1, E.b2, E.b3, E.b4, E.b5, E.b6, E.b7, E.b8, E.b9, E.b10, E.b11, E.b12, E.b13, E.b14, E.b15, E.b16, E.b17, E.b18, E.b19, E.b20, reduceCtorEq] at hc) <;> (try (exfalso; first | assumption | contradiction | omega))))
                      all_goals (first | (refine E.AW.first_off 16 rfl (by kernel_rfl) (by kernel_rfl) (by kernel_rfl) rfl rfl rfl ?_) | (refine E.AW.first 16 rfl (by kernel_rfl) (by kernel_rfl) (by kernel_rfl) rfl rfl rfl (E.PV.move rfl rfl) ?_))
                      all_goals (first | (refine E.AW.first_off 17 rfl (by kernel_rfl) (by kernel_rfl) (by kernel_rfl) rfl rfl rfl ?_) | (refine E.AW.first 17 rfl (by kernel_rfl) (by kernel_rfl) (by kernel_rfl) rfl rfl rfl (E.PV.load (i := 0) na3 rfl rfl rfl rfl) ?_))
                      all_goals (first | (refine E.AW.first_off 18 rfl (by kernel_rfl) (by kernel_rfl) (by kernel_rfl) rfl rfl rfl ?_) | (refine E.AW.first 18 rfl (by kernel_rfl) (by kernel_rfl) (by kernel_rfl) rfl rfl rfl (E.PV.indexAddrA Try.underlying89 in4 rfl rfl rfl rfl ?_) ?_; (focus (omega))))
                      all_goals (first | (refine E.AW.first_off 19 rfl (by kernel_rfl) (by kernel_rfl) (by kernel_rfl) rfl rfl rfl ?_) | (refine E.AW.first 19 rfl (by kernel_rfl) (by kernel_rfl) (by kernel_rfl) rfl rfl rfl (E.PV.load_bl (E.rdr (i := 2) rfl) na4 rfl rfl ?_) ?_; (focus (omega))))
                      all_goals (first | (refine E.AW.first 20 rfl (by kernel_rfl) (by kernel_rfl) (by kernel_rfl) rfl rfl rfl (E.PV.pick_t rfl rfl rfl) ?_) | (refine E.AW.first 20 rfl (by kernel_rfl) (by kernel_rfl) (by kernel_rfl) rfl rfl rfl (E.PV.pick_f rfl rfl rfl) ?_))
                      all_goals (refine E.AW.first 21 rfl (by kernel_rfl) (by kernel_rfl) (by kernel_rfl) rfl rfl rfl (E.PV.move rfl rfl) ?_)
                      all_goals (first | (refine E.AW.put 96 (.bool true) (v := .bool true) rfl rfl ?_) | (refine E.AW.split 96 rfl (fun hc => ?_) (fun hc => ?_) <;> (try simp only [E.b0, E.b1, E.b2, E.b3, E.b4, E.b5, E.b6, E.b7, E.b8, E.b9, E.b10, E.b11, E.b12, E.b13, E.b14, E.b15, E.b16, E.b17, E.b18, E.b19, E.b20, reduceCtorEq] at hc) <;> (try (exfalso; first | assumption | contradiction | omega))))
                      all_goals (first | (refine E.AW.first_off 22 rfl (by kernel_rfl) (by kernel_rfl) (by kernel_rfl) rfl rfl rfl ?_) | (refine E.AW.first 22 rfl (by kernel_rfl) (by kernel_rfl) (by kernel_rfl) rfl rfl rfl (E.PV.move rfl rfl) ?_))
                      all_goals (first | (refine E.AW.first_off 23 rfl (by kernel_rfl) (by kernel_rfl) (by kernel_rfl) rfl rfl rfl ?_) | (refine E.AW.first 23 rfl (by kernel_rfl) (by kernel_rfl) (by kernel_rfl) rfl rfl rfl (E.PV.load (i := 0) na3 rfl rfl rfl rfl) ?_))
                      all_goals (first | (refine E.AW.first_off 24 rfl (by kernel_rfl) (by kernel_rfl) (by kernel_rfl) rfl rfl rfl ?_) | (refine E.AW.first 24 rfl (by kernel_rfl) (by kernel_rfl) (by kernel_rfl) rfl rfl rfl (E.PV.indexAddrA Try.underlying89 in4 rfl rfl rfl rfl ?_) ?_; (focus (omega))))
                      all_goals (first | (refine E.AW.first_off 25 rfl (by kernel_rfl) (by kernel_rfl) (by kernel_rfl) rfl rfl rfl ?_) | (refine E.AW.first 25 rfl (by kernel_rfl) (by kernel_rfl) (by kernel_rfl) rfl rfl rfl (E.PV.load_bl (E.rdr (i := 1) rfl) na4 rfl rfl ?_) ?_; (focus (omega))))
                      all_goals (first | (refine E.AW.first_off 26 rfl (by kernel_rfl) (by kernel_rfl) (by kernel_rfl) rfl rfl rfl ?_) | (refine E.AW.first 26 rfl (by kernel_rfl) (by kernel_rfl) (by kernel_rfl) rfl rfl rfl (E.PV.move rfl rfl) ?_))
                      all_goals (first | (refine E.AW.put 101 (.tuple #[]) (v := .tuple #[]) rfl rfl ?_) | (refine E.AW.split 101 rfl (fun hc => ?_) (fun hc => ?_) <;> (try simp only [E.b0, E.b1, E.b2, E.b3, E.b4, E.b5, E.b6, E.b7, E.b8, E.b9, E.b10, E.b11, E.b12, E.b13, E.b14, E.b15, E.b16, E.b17, E.b18, E.b19, E.b20, reduceCtorEq] at hc) <;> (try (exfalso; first | assumption | contradiction | omega))))
                      all_goals (first | (refine E.AW.first_off 27 rfl (by kernel_rfl) (by kernel_rfl) (by kernel_rfl) rfl rfl rfl ?_) | (refine E.AW.first 27 rfl (by kernel_rfl) (by kernel_rfl) (by kernel_rfl) rfl rfl rfl (E.PV.move rfl rfl) ?_))
                      all_goals (first | (refine E.AW.first_off 28 rfl (by kernel_rfl) (by kernel_rfl) (by kernel_rfl) rfl rfl rfl ?_) | (refine E.AW.first 28 rfl (by kernel_rfl) (by kernel_rfl) (by kernel_rfl) rfl rfl rfl (E.PV.load (i := 0) na3 rfl rfl rfl rfl) ?_))
                      all_goals (first | (refine E.AW.first_off 29 rfl (by kernel_rfl) (by kernel_rfl) (by kernel_rfl) rfl rfl rfl ?_) | (refine E.AW.first 29 rfl (by kernel_rfl) (by kernel_rfl) (by kernel_rfl) rfl rfl rfl (E.PV.indexAddrA Try.underlying89 in4 rfl rfl rfl rfl ?_) ?_; (focus (omega))))
                      all_goals (first | (refine E.AW.first_off 30 rfl (by kernel_rfl) (by kernel_rfl) (by kernel_rfl) rfl rfl rfl ?_) | (refine E.AW.first 30 rfl (by kernel_rfl) (by kernel_rfl) (by kernel_rfl) rfl rfl rfl (E.PV.load_bl (E.rdr (i := 6) rfl) na4 rfl rfl ?_) ?_; (focus (omega))))
                      all_goals (first | (refine E.AW.first_off 31 rfl (by kernel_rfl) (by kernel_rfl) (by kernel_rfl) rfl rfl rfl ?_) | (refine E.AW.first 31 rfl (by kernel_rfl) (by kernel_rfl) (by kernel_rfl) rfl rfl rfl (E.PV.not rfl rfl) ?_))
                      all_goals (first | (refine E.AW.first_off 32 rfl (by kernel_rfl) (by kernel_rfl) (by kernel_rfl) rfl rfl rfl ?_) | (first | (refine E.AW.first 32 rfl (by kernel_rfl) (by kernel_rfl) (by kernel_rfl) rfl rfl rfl (E.PV.pick_t rfl rfl rfl) ?_) | (refine E.AW.first 32 rfl (by kernel_rfl) (by kernel_rfl) (by kernel_rfl) rfl rfl rfl (E.PV.pick_f rfl rfl rfl) ?_)))
                      all_goals (first | (refine E.AW.first 33 rfl (by kernel_rfl) (by kernel_rfl) (by kernel_rfl) rfl rfl rfl (E.PV.pick_t rfl rfl rfl) ?_) | (refine E.AW.first 33 rfl (by kernel_rfl) (by kernel_rfl) (by kernel_rfl) rfl rfl rfl (E.PV.pick_f rfl rfl rfl) ?_))
                      all_goals (refine E.AW.first 34 rfl (by kernel_rfl) (by kernel_rfl) (by kernel_rfl) rfl rfl rfl (E.PV.indexAddrA Try.underlying89 in4 rfl rfl rfl rfl ?_) ?_; (focus (omega)))
                      all_goals (refine E.AW.one 35 (by kernel_rfl) rfl ?_)
                      all_goals (refine E.OW.store_bl (i := 0) in4.size rfl rfl rfl rfl rfl rfl ?_ ?_; (focus (omega)))
                      all_goals (first | (refine E.AW.nil [1, 1, 1, 1, 1, 1, 1, 1, 1, 1, 1] rfl ?_) | (refine E.AW.nil [2, 2, 2, 2, 2, 2, 2, 2, 2, 2, 2] rfl ?_) | (refine E.AW.nil [3, 3, 3, 3, 3, 3, 3, 3, 3, 3, 3] rfl ?_) | (refine E.AW.nil [4, 4, 4, 4, 4, 4, 4, 4, 4, 4, 4] rfl ?_) | (refine E.AW.nil [5, 5, 5, 5, 5, 5, 5, 5, 5, 5, 5] rfl ?_) | (refine E.AW.nil [6, 6, 6, 6, 6, 6, 6, 6, 6, 6, 6] rfl ?_) | (refine E.AW.nil [7, 7, 7, 7, 7, 7, 7, 7, 7, 7, 7] rfl ?_) | (refine E.AW.nil [0, 0, 0, 0, 0, 0, 0, 0, 0, 0, 0] rfl ?_) | (refine E.AW.nil [0, 0, 0, 0, 0, 0, 0, 0, 0, 0, 0] rfl ?_))
                      all_goals (refine E.AW.done (by kernel_rfl) ?_)
                      all_goals (
                        skip
                        refine E.then_nf ?_
                        refine ⟨[], [0, 0, 0, 0, 0, 0, 0, 0, 0, 0, 0, 0], [_], by repeat (first | exact E.cov_nil | refine ⟨rfl, ?_⟩), rfl, rfl, congrArg (fun r => [E.HP.row 4 1 (some ⟨QC, 0, .none⟩) g.l.length g.l.length (r)]) (E.ltb_set (by first | rfl | ((try simp only [E.ltb_at] at *); unfold Rt.has; simp_all [E.inl]))), trivial⟩)
                    · rintro _ _ ⟨rfl, rfl, hI⟩
                      refine E.CW.seq ?_
                      refine E.CW.region ?_
                      refine E.OW.pure rfl rfl rfl (E.PV.fieldAddr fa28_0 rfl rfl) ?_
                      refine E.OW.pure rfl rfl rfl (E.PV.loads (i := 11) is24 rfl rfl rfl rfl) ?_
                      refine E.OW.pure rfl rfl rfl (E.PV.load (i := 1) na3 rfl rfl rfl rfl) ?_
                      (refine E.OW.call nm101 rfl rfl rfl rfl rfl rfl _ (fun w hw => Ar_ok _ _ _ _ _ _ w) ?_; rintro _ _ ⟨Bp, Bf, rfl, rfl⟩)
                      refine E.OW.nil ?_
                      refine E.then_n ?_
                      refine E.CW.block ?_
                      refine E.CW.conv (E.cv_nbin [10, 3, 9, 5, 5, 0, 0, 0, 0, 0, 0, 0, 0, 0] rfl hNA) ?_
                      have hhas := Rt.has_at hL.c (show i < g.l.length by omega)
                      refine E.CW.range (p := E.HP.nb B8 PB B914 g.l.length (some ⟨QN, 0, .none⟩) [.int .i64 (g.s.length : Int), .slice (some ⟨QC, 0, .none⟩) g.l.length g.l.length, .slice none 0 0, .slice none 0 0, .slice (some ⟨QN, 0, .none⟩) g.l.length g.l.length] i Xn ln un xs) (xs := Rt.nearI g.a g.b (i : Int)) (ds := ds) [8, 14] rfl rfl rfl rfl rfl nm126 rfl rfl 0 5 rfl rfl ?_ ?_ ?_
                      · intro w S L q hw hY hS hb hc
                        exact ArI_ok g.a g.b (i : Int) _ Bp Bf L q S w hhas hY hS (fun k hk => (hb k hk).1) (E.blk_in hc (i := 0) rfl) (E.blk_in hc (i := 1) rfl)
                      · intro L pre x rest hxs
                        have hpl := Rt.near_pre hxs
                        refine ⟨[(16, .int .i64 x), (8, .pointer (some ⟨B8, 0, none⟩)), (14, .pointer (some ⟨B914, 0, none⟩))], fun W F9 => ?_, fun W F9 => ?_⟩
                        · skip
                          refine E.CW.region ?_
                          refine E.OW.pure rfl rfl rfl (E.PV.assign rfl rfl) ?_
                          refine E.OW.nil ?_
                          exact ⟨rfl, (by repeat (first | exact E.cov_nil | refine ⟨rfl, ?_⟩)), rfl⟩
                        · skip
                          refine E.CW.nbout rfl (by omega) (fun AR uR => ?_)
                          refine E.CW.block ?_
                          refine E.CW.drawx mixed [2, 2, 2] rfl ?_
                          all_goals (refine E.AW.first 0 rfl (by kernel_rfl) (by kernel_rfl) (by kernel_rfl) rfl rfl rfl (E.PV.load (i := 0) na87 rfl rfl rfl rfl) ?_)
                          all_goals (refine E.AW.first 1 rfl (by kernel_rfl) (by kernel_rfl) (by kernel_rfl) rfl rfl rfl (E.PV.nilCheck rfl rfl) ?_)
                          all_goals (refine E.AW.first 2 rfl (by kernel_rfl) (by kernel_rfl) (by kernel_rfl) rfl rfl rfl (E.PV.fieldAddr fa93_4 rfl rfl) ?_)
                          all_goals (refine E.AW.first 3 rfl (by kernel_rfl) (by kernel_rfl) (by kernel_rfl) rfl rfl rfl (E.PV.load (i := 2) na91 rfl rfl rfl rfl) ?_)
                          all_goals (refine E.AW.first 4 rfl (by kernel_rfl) (by kernel_rfl) (by kernel_rfl) rfl rfl rfl (E.PV.load (i := 1) na3 rfl rfl rfl rfl) ?_)
                          all_goals (refine E.AW.first 5 rfl (by kernel_rfl) (by kernel_rfl) (by kernel_rfl) rfl rfl rfl (E.PV.load (i := 0) na87 rfl rfl rfl rfl) ?_)
                          all_goals (refine E.AW.first 6 rfl (by kernel_rfl) (by kernel_rfl) (by kernel_rfl) rfl rfl rfl (E.PV.nilCheck rfl rfl) ?_)
                          all_goals (refine E.AW.first 7 rfl (by kernel_rfl) (by kernel_rfl) (by kernel_rfl) rfl rfl rfl (E.PV.fieldAddr fa93_4 rfl rfl) ?_)
                          all_goals (refine E.AW.first 8 rfl (by kernel_rfl) (by kernel_rfl) (by kernel_rfl) rfl rfl rfl (E.PV.load (i := 2) na91 rfl rfl rfl rfl) ?_)
                          all_goals (refine E.AW.first 9 rfl (by kernel_rfl) (by kernel_rfl) (by kernel_rfl) rfl rfl rfl (E.PV.load (i := 1) na3 rfl rfl rfl rfl) ?_)
                          all_goals (refine E.AW.first 10 rfl (by kernel_rfl) (by kernel_rfl) (by kernel_rfl) rfl rfl rfl (E.PV.indexAddrA Try.underlying91 in31 rfl rfl rfl rfl ?_) ?_; (focus (omega)))
                          all_goals (refine E.AW.first 12 rfl (by kernel_rfl) (by kernel_rfl) (by kernel_rfl) rfl rfl rfl (E.PV.move rfl rfl) ?_)
                          all_goals (
                            refine E.AW.two 11 13 (by kernel_rfl) rfl rfl ?ga8 ?gb8
                            case' ga8 =>
                                all_goals (refine E.OW.pure rfl rfl rfl (E.PV.load_s2 (E.rdr (i := 5) rfl) na31 rfl rfl ?_) ?_; (focus (omega)))
                                all_goals (first | (refine E.AW.nil [2, 2, 2] rfl ?_) | (refine E.AW.nil [3, 3, 3] rfl ?_) | (refine E.AW.nil [4, 4, 4] rfl ?_) | (refine E.AW.nil [5, 5, 5] rfl ?_) | (refine E.AW.nil [6, 6, 6] rfl ?_) | (refine E.AW.nil [7, 7, 7] rfl ?_) | (refine E.AW.nil [8, 8, 8] rfl ?_) | (refine E.AW.nil [1, 1, 1] rfl ?_) | (refine E.AW.nil [0, 0, 0] rfl ?_))
                                all_goals (refine E.AW.one 13 (by kernel_rfl) rfl ?_)
                                all_goals (refine E.OW.buildSlice (Et := 3) (sz := 1) (ps := [(0, .tmp 127)]) rfl rfl rfl rfl rfl (by simp) (by unfold maxLen; omega) (fun w => bsl31_1_0 _ w) (fun A34 => ?_))
                                all_goals (first | (refine E.AW.nil [2, 2, 2] rfl ?_) | (refine E.AW.nil [3, 3, 3] rfl ?_) | (refine E.AW.nil [4, 4, 4] rfl ?_) | (refine E.AW.nil [5, 5, 5] rfl ?_) | (refine E.AW.nil [6, 6, 6] rfl ?_) | (refine E.AW.nil [7, 7, 7] rfl ?_) | (refine E.AW.nil [8, 8, 8] rfl ?_) | (refine E.AW.nil [1, 1, 1] rfl ?_) | (refine E.AW.nil [0, 0, 0] rfl ?_))
                                all_goals (refine E.AW.put 126 (.slice AR pre.length uR) rfl (by simp only [E.up_same]) ?_)
                                all_goals (refine E.AW.one 14 (by kernel_rfl) rfl ?_)
                                all_goals (refine E.OW.app_int1 (j := 0) (i := 0) Try.underlying31 in3 rfl rfl rfl rfl rfl rfl rfl rfl rfl rfl ?_ (fun A35 c35 => ?_); (focus ((first | omega | (simp only [List.length_append, List.length_cons, List.length_nil] at *; omega) | (unfold maxLen at *; omega)))))
                                all_goals (first | (refine E.AW.nil [2, 2, 2] rfl ?_) | (refine E.AW.nil [3, 3, 3] rfl ?_) | (refine E.AW.nil [4, 4, 4] rfl ?_) | (refine E.AW.nil [5, 5, 5] rfl ?_) | (refine E.AW.nil [6, 6, 6] rfl ?_) | (refine E.AW.nil [7, 7, 7] rfl ?_) | (refine E.AW.nil [8, 8, 8] rfl ?_) | (refine E.AW.nil [1, 1, 1] rfl ?_) | (refine E.AW.nil [0, 0, 0] rfl ?_))
                                all_goals (refine E.AW.first 15 rfl (by kernel_rfl) (by kernel_rfl) (by kernel_rfl) rfl rfl rfl (E.PV.indexAddrA Try.underlying91 in31 rfl rfl rfl rfl ?_) ?_; (focus (omega)))
                                all_goals (refine E.AW.one 16 (by kernel_rfl) rfl ?_)
                                all_goals (refine E.OW.store_s2 (i := 5) in31.size rfl rfl rfl rfl rfl rfl ?_ ?_; (focus (omega)))
                                all_goals (first | (refine E.AW.nil [2, 2, 2] rfl ?_) | (refine E.AW.nil [3, 3, 3] rfl ?_) | (refine E.AW.nil [4, 4, 4] rfl ?_) | (refine E.AW.nil [5, 5, 5] rfl ?_) | (refine E.AW.nil [6, 6, 6] rfl ?_) | (refine E.AW.nil [7, 7, 7] rfl ?_) | (refine E.AW.nil [8, 8, 8] rfl ?_) | (refine E.AW.nil [1, 1, 1] rfl ?_) | (refine E.AW.nil [0, 0, 0] rfl ?_))
                                all_goals (refine E.AW.conv (E.cv_nbback (post := pre ++ [x]) [1, 1, 1, 1, 1, 0] (by omega) rfl rfl rfl) ?_)
                                all_goals (refine E.AW.done (by kernel_rfl) ?_)
                            case' gb8 =>
                                all_goals (refine E.OW.buildSlice (Et := 3) (sz := 1) (ps := [(0, .tmp 127)]) rfl rfl rfl rfl rfl (by simp) (by unfold maxLen; omega) (fun w => bsl31_1_0 _ w) (fun A36 => ?_))
                                all_goals (first | (refine E.AW.nil [2, 2, 2] rfl ?_) | (refine E.AW.nil [3, 3, 3] rfl ?_) | (refine E.AW.nil [4, 4, 4] rfl ?_) | (refine E.AW.nil [5, 5, 5] rfl ?_) | (refine E.AW.nil [6, 6, 6] rfl ?_) | (refine E.AW.nil [7, 7, 7] rfl ?_) | (refine E.AW.nil [8, 8, 8] rfl ?_) | (refine E.AW.nil [1, 1, 1] rfl ?_) | (refine E.AW.nil [0, 0, 0] rfl ?_))
                                all_goals (refine E.AW.one 11 (by kernel_rfl) rfl ?_)
                                all_goals (refine E.OW.pure rfl rfl rfl (E.PV.load_s2 (E.rdr (i := 6) rfl) na31 rfl rfl ?_) ?_; (focus (omega)))
                                all_goals (first | (refine E.AW.nil [2, 2, 2] rfl ?_) | (refine E.AW.nil [3, 3, 3] rfl ?_) | (refine E.AW.nil [4, 4, 4] rfl ?_) | (refine E.AW.nil [5, 5, 5] rfl ?_) | (refine E.AW.nil [6, 6, 6] rfl ?_) | (refine E.AW.nil [7, 7, 7] rfl ?_) | (refine E.AW.nil [8, 8, 8] rfl ?_) | (refine E.AW.nil [1, 1, 1] rfl ?_) | (refine E.AW.nil [0, 0, 0] rfl ?_))
                                all_goals (refine E.AW.put 126 (.slice AR pre.length uR) rfl (by simp only [E.up_same]) ?_)
                                all_goals (refine E.AW.one 14 (by kernel_rfl) rfl ?_)
                                all_goals (refine E.OW.app_int1 (j := 0) (i := 0) Try.underlying31 in3 rfl rfl rfl rfl rfl rfl rfl rfl rfl rfl ?_ (fun A37 c37 => ?_); (focus ((first | omega | (simp only [List.length_append, List.length_cons, List.length_nil] at *; omega) | (unfold maxLen at *; omega)))))
                                all_goals (first | (refine E.AW.nil [2, 2, 2] rfl ?_) | (refine E.AW.nil [3, 3, 3] rfl ?_) | (refine E.AW.nil [4, 4, 4] rfl ?_) | (refine E.AW.nil [5, 5, 5] rfl ?_) | (refine E.AW.nil [6, 6, 6] rfl ?_) | (refine E.AW.nil [7, 7, 7] rfl ?_) | (refine E.AW.nil [8, 8, 8] rfl ?_) | (refine E.AW.nil [1, 1, 1] rfl ?_) | (refine E.AW.nil [0, 0, 0] rfl ?_))
                                all_goals (refine E.AW.first 15 rfl (by kernel_rfl) (by kernel_rfl) (by kernel_rfl) rfl rfl rfl (E.PV.indexAddrA Try.underlying91 in31 rfl rfl rfl rfl ?_) ?_; (focus (omega)))
                                all_goals (refine E.AW.one 16 (by kernel_rfl) rfl ?_)
                                all_goals (refine E.OW.store_s2 (i := 5) in31.size rfl rfl rfl rfl rfl rfl ?_ ?_; (focus (omega)))
                                all_goals (first | (refine E.AW.nil [2, 2, 2] rfl ?_) | (refine E.AW.nil [3, 3, 3] rfl ?_) | (refine E.AW.nil [4, 4, 4] rfl ?_) | (refine E.AW.nil [5, 5, 5] rfl ?_) | (refine E.AW.nil [6, 6, 6] rfl ?_) | (refine E.AW.nil [7, 7, 7] rfl ?_) | (refine E.AW.nil [8, 8, 8] rfl ?_) | (refine E.AW.nil [1, 1, 1] rfl ?_) | (refine E.AW.nil [0, 0, 0] rfl ?_))
                                all_goals (refine E.AW.conv (E.cv_nbback (post := pre ++ [x]) [1, 1, 1, 1, 1, 0] (by omega) rfl rfl rfl) ?_)
                                all_goals (refine E.AW.done (by kernel_rfl) ?_))
                          all_goals (
                            skip
                            refine E.blk_n ?_
                            exact ⟨rfl, [0], rfl⟩)
                      · intro DM
                        refine E.blk_n ?_
                        refine E.blk_n ?_
                        refine E.then_n ?_
                        refine E.CW.sels [1, 0, 0, 0, 0, 0, 0, 0, 0, 0] rfl ?_
                        refine E.CW.nbend rfl (fun AE uE => ?_)
                        have hnn : Rt.nearI g.a g.b (i : Int) = E.nn (Rt.G g.q t a b) i := (Rt.nn_near g.q i).symm
                        rw [hnn]
                        refine E.CW.region ?_
                        refine E.OW.pure rfl rfl rfl (E.PV.add_i64 rfl rfl rfl ?_) ?_; (focus (omega))
                        refine E.OW.pure rfl rfl rfl (E.PV.move rfl rfl) ?_
                        refine E.OW.nil ?_
                        refine E.then_nf ?_
                        refine ⟨_, [(58, _), (9999, _)], [9, 9, 8, 3, 3, 3, 5, 0, 1, 3, 3], [_, _, _, _, _, _], ?_, by repeat (first | exact E.cov_nil | refine ⟨rfl, ?_⟩), rfl, i + 1, _, _, _, _, _, rfl, rfl, rfl, by omega, hNA.next _ _⟩
                        omega))
              · simp only [E.b0, E.b1, E.b2, E.b3, E.b4, E.b5, E.b6, E.b7, E.b8, E.b9, E.b10, E.b11, E.b12, E.b13, E.b14, E.b15, E.b16, E.b17, E.b18, E.b19, E.b20, reduceCtorEq] at hc
                all_goals (
                  refine E.CW.exit ?_
                  refine E.then_x ?_
                  refine E.then_x ?_
                  refine E.blk_eq ?_
                  refine E.then_n ?_
                  refine E.CW.seq ?_
                  refine E.CW.seq ?_
                  obtain rfl : i = g.l.length := by omega
                  refine E.CW.conv (E.cv_chunk 2 (E.HP.row 4 1 (some ⟨QC, 0, .none⟩) g.l.length g.l.length (E.bls g.l.length ((fun j => Rt.has g.q t a b (j : Int))))) rfl (by rw [E.ltb_all])) ?_
                  refine E.CW.conv (E.cv_chunk 1 (E.HP.row 4 1 (some ⟨QO, 0, .none⟩) g.l.length g.l.length (E.bls g.l.length ((fun j => Rt.mine g.q t (j : Int))))) rfl (by rw [E.ltb_all])) ?_
                  refine E.CW.conv (E.cv_chunk 2 (E.HP.row 4 1 (some ⟨QI, 0, .none⟩) g.l.length g.l.length (E.bls g.l.length ((fun j => Rt.aisle g.q (j : Int))))) rfl (by rw [E.ltb_all])) ?_
                  refine E.CW.conv (E.cv_chunk 3 (E.HP.row 31 1 (some ⟨QN, 0, .none⟩) g.l.length g.l.length (E.slc2 g.l.length Xn (fun p => ((Rt.G g.q t a b).nr p).length) un)) rfl (by rw [E.slc2_congr fun j hj => ⟨rfl, (hNA.d j hj).1, rfl⟩])) ?_
                  refine E.CW.conv (E.cv_chunk 4 (E.HP.rows 3 g.l.length Xn (fun p => ((Rt.G g.q t a b).nr p).length) un (fun p => E.ints (E.nn (Rt.G g.q t a b) p))) rfl (E.rows_congr fun j hj => ⟨rfl, (hNA.d j hj).1, rfl, (hNA.d j hj).2⟩)) ?_
                  refine E.CW.nilrow 31 1 ?_
                  refine E.CW.rows_nil (Et := 3) (A := fun _ => none) (len := fun _ => g.l.length) (c := fun _ => 0) (xs := (fun (_ : Nat) => E.iis g.l.length fun _ => -1)) ?_
                  refine E.CW.nilrow 89 1 ?_
                  refine E.CW.rows_nil (Et := 4) (A := fun _ => none) (len := fun _ => g.l.length) (c := fun _ => 0) (xs := (fun (k : Nat) => E.bls g.l.length ((fun j => Rt.alw g.q t a b (k : Int) (j : Int))))) ?_
                  refine E.CW.region ?_
                  refine E.OW.pure rfl rfl rfl (E.PV.load (i := 11) na87 rfl rfl rfl rfl) ?_
                  refine E.OW.pure rfl rfl rfl (E.PV.nilCheck rfl rfl) ?_
                  refine E.OW.pure rfl rfl rfl (E.PV.fieldAddr fa93_0 rfl rfl) ?_
                  refine E.OW.pure rfl rfl rfl (E.PV.load (i := 12) na3 rfl rfl rfl rfl) ?_
                  refine E.OW.pure rfl rfl rfl (E.PV.move rfl rfl) ?_
                  refine E.OW.nil ?_
                  refine E.then_n ?_
                  refine E.CW.block ?_
                  refine E.CW.sels [12, 1, 0, 1, 0, 0, 0, 0, 0, 0, 0, 1, 1, 1] rfl ?_
                  refine E.CW.loopk [1, 3, 5, 7, 8, 12, 13, 135, 9999] 5 rfl rfl (fun mm mods Hm => ∃ k : Nat, ∃ Aa : Option Addr, ∃ ca : Nat, ∃ Xa : Nat → Option Addr, ∃ ua : Nat → Nat, ∃ Ad : Option Addr, ∃ cd : Nat, ∃ Xd : Nat → Option Addr, ∃ ud : Nat → Nat, mm = g.s.length - k ∧ mods = [(136, .int .i64 k)] ∧ Hm = [E.HP.blk PB 93 [.int .i64 (g.s.length : Int), .slice (some ⟨QC, 0, .none⟩) g.l.length g.l.length, .slice Aa k ca, .slice Ad k cd, .slice (some ⟨QN, 0, .none⟩) g.l.length g.l.length], E.HP.row 89 1 Aa (k) ca (E.slc2 (k) Xa (fun _ => g.l.length) ua), E.HP.rows 4 (k) Xa (fun _ => g.l.length) ua (fun (k : Nat) => E.bls g.l.length ((fun j => Rt.alw g.q t a b (k : Int) (j : Int)))), E.HP.row 31 1 Ad (k) cd (E.slc2 (k) Xd (fun _ => g.l.length) ud), E.HP.rows 3 (k) Xd (fun _ => g.l.length) ud (fun (_ : Nat) => E.iis g.l.length fun _ => -1)] ∧ k ≤ g.s.length) (g.s.length) ?_ ?_
                  · exact ⟨[(136, _)], (by repeat (first | exact E.cov_nil | refine ⟨rfl, ?_⟩)), 0, _, _, _, _, _, _, _, _, rfl, rfl, rfl, by omega⟩
                  · rintro _ _ _ ⟨k, Aa, ca, Xa, ua, Ad, cd, Xd, ud, rfl, rfl, rfl, hk⟩
                    refine E.CW.seq ?_
                    refine E.CW.region ?_
                    refine E.OW.pure rfl rfl rfl (E.PV.lss rfl rfl rfl) ?_
                    refine E.OW.nil ?_
                    refine E.then_n ?_
                    refine E.CW.seq ?_
                    refine E.CW.cond rfl (fun hc => ?_) (fun hc => ?_)
                    · simp only [E.b0, E.b1, E.b2, E.b3, E.b4, E.b5, E.b6, E.b7, E.b8, E.b9, E.b10, E.b11, E.b12, E.b13, E.b14, E.b15, E.b16, E.b17, E.b18, E.b19, E.b20, reduceCtorEq] at hc
                      all_goals (
                        refine E.CW.skip ?_
                        refine E.then_n ?_
                        refine E.CW.seq ?_
                        refine E.CW.block ?_
                        refine E.CW.seq ?_
                        refine E.CW.region ?_
                        refine E.OW.pure rfl rfl rfl (E.PV.move rfl rfl) ?_
                        refine E.OW.pure rfl rfl rfl (E.PV.assign rfl rfl) ?_
                        refine E.OW.nil ?_
                        refine E.then_n ?_
                        refine E.CW.cut [1, 3, 5, 7, 8, 12, 13, 17, 135, 136, 9999] 0 rfl rfl (fun mods Hm => ∃ Ar : Option Addr, ∃ Af : Option Addr, mods = [(18, .slice Ar g.l.length g.l.length), (19, .slice Af g.l.length g.l.length)] ∧ Hm = [E.HP.row 4 1 Ar g.l.length g.l.length (E.bls g.l.length (fun _ => false)), E.HP.row 3 1 Af g.l.length g.l.length (E.iis g.l.length fun _ => 0)] ∧ True) ?_ ?_
                        · skip
                          refine E.CW.drawx mixed [] rfl ?_
                          all_goals (refine E.AW.first 0 rfl (by kernel_rfl) (by kernel_rfl) (by kernel_rfl) rfl rfl rfl (E.PV.move rfl rfl) ?_)
                          all_goals (refine E.AW.first 2 rfl (by kernel_rfl) (by kernel_rfl) (by kernel_rfl) rfl rfl rfl (E.PV.move rfl rfl) ?_)
                          all_goals (
                            refine E.AW.two 1 3 (by kernel_rfl) rfl rfl ?ga9 ?gb9
                            case' ga9 =>
                                all_goals (refine E.OW.make_bl _ Try.underlying89 in4 rfl rfl rfl rfl rfl rfl rfl ?_ ?_ (fun A38 => ?_); (focus (unfold maxLen; omega)); (focus (omega)))
                                all_goals (refine E.AW.nil [] rfl ?_)
                                all_goals (refine E.AW.first 4 rfl (by kernel_rfl) (by kernel_rfl) (by kernel_rfl) rfl rfl rfl (E.PV.assign rfl rfl) ?_)
                                all_goals (refine E.AW.one 3 (by kernel_rfl) rfl ?_)
                                all_goals (refine E.OW.make_ii _ Try.underlying31 in3 rfl rfl rfl rfl rfl rfl rfl ?_ ?_ (fun A39 => ?_); (focus (unfold maxLen; omega)); (focus (omega)))
                                all_goals (refine E.AW.nil [] rfl ?_)
                                all_goals (refine E.AW.first 5 rfl (by kernel_rfl) (by kernel_rfl) (by kernel_rfl) rfl rfl rfl (E.PV.assign rfl rfl) ?_)
                                all_goals (refine E.AW.done (by kernel_rfl) ?_)
                            case' gb9 =>
                                all_goals (refine E.OW.make_ii _ Try.underlying31 in3 rfl rfl rfl rfl rfl rfl rfl ?_ ?_ (fun A40 => ?_); (focus (unfold maxLen; omega)); (focus (omega)))
                                all_goals (refine E.AW.nil [] rfl ?_)
                                all_goals (refine E.AW.one 1 (by kernel_rfl) rfl ?_)
                                all_goals (refine E.OW.make_bl _ Try.underlying89 in4 rfl rfl rfl rfl rfl rfl rfl ?_ ?_ (fun A41 => ?_); (focus (unfold maxLen; omega)); (focus (omega)))
                                all_goals (refine E.AW.nil [] rfl ?_)
                                all_goals (refine E.AW.first 4 rfl (by kernel_rfl) (by kernel_rfl) (by kernel_rfl) rfl rfl rfl (E.PV.assign rfl rfl) ?_)
                                all_goals (refine E.AW.first 5 rfl (by kernel_rfl) (by kernel_rfl) (by kernel_rfl) rfl rfl rfl (E.PV.assign rfl rfl) ?_)
                                all_goals (refine E.AW.done (by kernel_rfl) ?_))
                          all_goals (
                            skip
                            refine E.then_nf ?_
                            first | (refine ⟨[(18, _), (19, _)], [0, 0, 0, 0, 0, 0, 0, 0, 0, 0, 0, 0, 0, 0, 0, 0], _, ?_, rfl, _, _, rfl, rfl, trivial⟩; focus (repeat (first | exact E.cov_nil | refine ⟨rfl, ?_⟩)); done) | (refine ⟨[(18, _), (19, _)], [1, 0, 0, 0, 0, 0, 0, 0, 0, 0, 0, 0, 0, 0, 0, 0], _, ?_, rfl, _, _, rfl, rfl, trivial⟩; focus (repeat (first | exact E.cov_nil | refine ⟨rfl, ?_⟩)); done))
                        · rintro _ _ ⟨Ar, Af, rfl, rfl, hI⟩
                          refine E.CW.seq ?_
                          refine E.CW.region ?_
                          refine E.OW.pure rfl rfl rfl (E.PV.fieldAddr fa28_1 rfl rfl) ?_
                          refine E.OW.pure rfl rfl rfl (E.PV.load (i := 15) na22 rfl rfl rfl rfl) ?_
                          refine E.OW.pure rfl rfl rfl (E.PV.move rfl rfl) ?_
                          refine E.OW.pure rfl rfl rfl (E.PV.conv_in Try.underlying3 Try.underlying26 rfl rfl ?_) ?_; (focus (first | exact E.wrap_u8 _ | (simp only [IntKind.wrap_i64, IntKind.wrap_u64, IntKind.wrap_u8]; omega)))
                          (refine E.OW.call nm102 rfl rfl rfl rfl rfl rfl _ (fun w hw => SliceOwner_ok _ _ _ _ ?_ w ?_ ?_) ?_; (focus (omega)); (focus (omega)); (focus (refine hw.rd ?_; assumption)); rintro _ _ ⟨rfl, rfl⟩)
                          refine E.OW.pure rfl rfl rfl (E.PV.move rfl rfl) ?_
                          refine E.OW.pure rfl rfl rfl (E.PV.extract rfl rfl rfl) ?_
                          refine E.OW.pure rfl rfl rfl (E.PV.extract rfl rfl rfl) ?_
                          refine E.OW.pure rfl rfl rfl (E.PV.assign rfl rfl) ?_
                          refine E.OW.pure rfl rfl rfl (E.PV.assign rfl rfl) ?_
                          refine E.OW.nil ?_
                          refine E.then_n ?_
                          refine E.CW.seq ?_
                          refine E.CW.seq ?_
                          refine E.CW.row_some 0 rfl (by omega) (fun QR hQR => ?_)
                          subst hQR
                          refine E.CW.row_some 1 rfl (by omega) (fun QF hQF => ?_)
                          subst hQF
                          refine E.CW.region ?_
                          refine E.OW.pure rfl rfl rfl (E.PV.move rfl rfl) ?_
                          refine E.OW.pure rfl rfl rfl (E.PV.move rfl rfl) ?_
                          refine E.OW.nil ?_
                          refine E.then_n ?_
                          refine E.CW.block ?_
                          refine E.CW.sels [0, 0, 0, 0, 0, 0, 0, 0, 0, 0, 0, 0, 0, 0, 0, 0] rfl ?_
                          refine E.CW.loopk [1, 3, 5, 7, 8, 12, 13, 18, 19, 20, 135, 136, 151, 9999] 2 rfl rfl (fun mm mods Hm => ∃ j : Nat, mm = g.l.length - j ∧ mods = [(152, .int .i64 j)] ∧ Hm = [E.HP.row 4 1 (some ⟨QR, 0, .none⟩) g.l.length g.l.length (E.bls g.l.length (E.ltb j (fun j => Rt.alw g.q t a b (k : Int) (j : Int)))), E.HP.row 3 1 (some ⟨QF, 0, .none⟩) g.l.length g.l.length (E.iis g.l.length (fun i => if i < j then (-1 : Int) else 0))] ∧ j ≤ g.l.length) (g.l.length) ?_ ?_
                          · exact ⟨[(152, _)], (by repeat (first | exact E.cov_nil | refine ⟨rfl, ?_⟩)), 0, rfl, rfl, (by rw [← E.ltb_zero]; rfl), by omega⟩
                          · rintro _ _ _ ⟨j, rfl, rfl, rfl, hj⟩
                            refine E.CW.seq ?_
                            refine E.CW.region ?_
                            refine E.OW.pure rfl rfl rfl (E.PV.lss rfl rfl rfl) ?_
                            refine E.OW.nil ?_
                            refine E.then_n ?_
                            refine E.CW.seq ?_
                            refine E.CW.cond rfl (fun hc => ?_) (fun hc => ?_)
                            · simp only [E.b0, E.b1, E.b2, E.b3, E.b4, E.b5, E.b6, E.b7, E.b8, E.b9, E.b10, E.b11, E.b12, E.b13, E.b14, E.b15, E.b16, E.b17, E.b18, E.b19, E.b20, reduceCtorEq] at hc
                              all_goals (
                                refine E.CW.skip ?_
                                refine E.then_n ?_
                                refine E.CW.seq ?_
                                refine E.CW.block ?_
                                refine E.CW.seq ?_
                                refine E.CW.region ?_
                                refine E.OW.pure rfl rfl rfl (E.PV.move rfl rfl) ?_
                                refine E.OW.pure rfl rfl rfl (E.PV.assign rfl rfl) ?_
                                refine E.OW.nil ?_
                                refine E.then_n ?_
                                refine E.CW.cut [1, 3, 5, 7, 8, 12, 13, 18, 19, 20, 22, 135, 136, 151, 152, 9999] 1 rfl rfl (fun mods Hm =>  mods = [] ∧ Hm = [E.HP.row 4 1 (some ⟨QR, 0, .none⟩) g.l.length g.l.length (E.bls g.l.length (E.ltb (j + 1) (fun j => Rt.alw g.q t a b (k : Int) (j : Int))))] ∧ True) ?_ ?_
                                · skip
                                  refine E.CW.region ?_
                                  refine E.OW.pure rfl rfl rfl (E.PV.move rfl rfl) ?_
                                  refine E.OW.pure rfl rfl rfl (E.PV.move rfl rfl) ?_
                                  refine E.OW.pure rfl rfl rfl (E.PV.load (i := 13) na87 rfl rfl rfl rfl) ?_
                                  refine E.OW.pure rfl rfl rfl (E.PV.nilCheck rfl rfl) ?_
                                  refine E.OW.pure rfl rfl rfl (E.PV.fieldAddr fa93_1 rfl rfl) ?_
                                  refine E.OW.pure rfl rfl rfl (E.PV.load (i := 2) na89 rfl rfl rfl rfl) ?_
                                  refine E.OW.pure rfl rfl rfl (E.PV.move rfl rfl) ?_
                                  refine E.OW.pure rfl rfl rfl (E.PV.indexAddrA Try.underlying89 in4 rfl rfl rfl rfl ?_) ?_; (focus (omega))
                                  refine E.OW.pure rfl rfl rfl (E.PV.load_bl (E.rdr (i := 11) rfl) na4 rfl rfl ?_) ?_; (focus (omega))
                                  refine E.OW.pure rfl rfl rfl (E.PV.move rfl rfl) ?_
                                  all_goals (refine E.OW.split 164 rfl (fun hc => ?_) (fun hc => ?_) <;> (try simp only [E.b0, E.b1, E.b2, E.b3, E.b4, E.b5, E.b6, E.b7, E.b8, E.b9, E.b10, E.b11, E.b12, E.b13, E.b14, E.b15, E.b16, E.b17, E.b18, E.b19, E.b20, reduceCtorEq] at hc) <;> (try (exfalso; first | assumption | contradiction | omega)))
                                  all_goals (first | (refine E.OW.off rfl rfl rfl ?_) | (refine E.OW.pure rfl rfl rfl (E.PV.move rfl rfl) ?_))
                                  all_goals (first | (refine E.OW.off rfl rfl rfl ?_) | (refine E.OW.pure rfl rfl rfl (E.PV.move rfl rfl) ?_))
                                  all_goals (first | (refine E.OW.off rfl rfl rfl ?_) | (refine E.OW.pure rfl rfl rfl (E.PV.indexAddrA Try.underlying89 in4 rfl rfl rfl rfl ?_) ?_; (focus (omega))))
                                  all_goals (first | (refine E.OW.off rfl rfl rfl ?_) | (refine E.OW.pure rfl rfl rfl (E.PV.load_bl (E.rdr (i := 10) rfl) na4 rfl rfl ?_) ?_; (focus (omega))))
                                  all_goals (first | (refine E.OW.off rfl rfl rfl ?_) | (refine E.OW.pure rfl rfl rfl (E.PV.move rfl rfl) ?_))
                                  all_goals (first | (refine E.OW.put 169 (.tuple #[]) (v := .tuple #[]) rfl rfl ?_) | (refine E.OW.split 169 rfl (fun hc => ?_) (fun hc => ?_) <;> (try simp only [E.b0, E.b1, E.b2, E.b3, E.b4, E.b5, E.b6, E.b7, E.b8, E.b9, E.b10, E.b11, E.b12, E.b13, E.b14, E.b15, E.b16, E.b17, E.b18, E.b19, E.b20, reduceCtorEq] at hc) <;> (try (exfalso; first | assumption | contradiction | omega))))
                                  all_goals (first | (refine E.OW.off rfl rfl rfl ?_) | (refine E.OW.pure rfl rfl rfl (E.PV.move rfl rfl) ?_))
                                  all_goals (first | (refine E.OW.off rfl rfl rfl ?_) | (refine E.OW.pure rfl rfl rfl (E.PV.move rfl rfl) ?_))
                                  all_goals (first | (refine E.OW.off rfl rfl rfl ?_) | (refine E.OW.pure rfl rfl rfl (E.PV.indexAddrA Try.underlying89 in4 rfl rfl rfl rfl ?_) ?_; (focus (omega))))
                                  all_goals (first | (refine E.OW.off rfl rfl rfl ?_) | (refine E.OW.pure rfl rfl rfl (E.PV.load_bl (E.rdr (i := 9) rfl) na4 rfl rfl ?_) ?_; (focus (omega))))
                                  all_goals (first | (refine E.OW.off rfl rfl rfl ?_) | (refine E.OW.pure rfl rfl rfl (E.PV.move rfl rfl) ?_))
                                  all_goals (first | (refine E.OW.put 174 (.tuple #[]) (v := .tuple #[]) rfl rfl ?_) | (refine E.OW.split 174 rfl (fun hc => ?_) (fun hc => ?_) <;> (try simp only [E.b0, E.b1, E.b2, E.b3, E.b4, E.b5, E.b6, E.b7, E.b8, E.b9, E.b10, E.b11, E.b12, E.b13, E.b14, E.b15, E.b16, E.b17, E.b18, E.b19, E.b20, reduceCtorEq] at hc) <;> (try (exfalso; first | assumption | contradiction | omega))))
                                  all_goals (first | (refine E.OW.off rfl rfl rfl ?_) | (refine E.OW.pure rfl rfl rfl (E.PV.move rfl rfl) ?_))
                                  all_goals (first | (refine E.OW.off rfl rfl rfl ?_) | (refine E.OW.pure rfl rfl rfl (E.PV.move rfl rfl) ?_))
                                  all_goals (first | (refine E.OW.off rfl rfl rfl ?_) | (refine E.OW.pure rfl rfl rfl (E.PV.eql rfl rfl rfl) ?_))
                                  all_goals (first | (refine E.OW.off rfl rfl rfl ?_) | (first | (refine E.OW.pure rfl rfl rfl (E.PV.pick_t rfl rfl rfl) ?_) | (refine E.OW.pure rfl rfl rfl (E.PV.pick_f rfl rfl rfl) ?_)))
                                  all_goals (first | (refine E.OW.off rfl rfl rfl ?_) | (first | (refine E.OW.pure rfl rfl rfl (E.PV.pick_t rfl rfl rfl) ?_) | (refine E.OW.pure rfl rfl rfl (E.PV.pick_f rfl rfl rfl) ?_)))
                                  all_goals (first | (refine E.OW.pure rfl rfl rfl (E.PV.pick_t rfl rfl rfl) ?_) | (refine E.OW.pure rfl rfl rfl (E.PV.pick_f rfl rfl rfl) ?_))
                                  all_goals (refine E.OW.pure rfl rfl rfl (E.PV.indexAddrA Try.underlying89 in4 rfl rfl rfl rfl ?_) ?_; (focus (omega)))
                                  all_goals (refine E.OW.store_bl (i := 0) in4.size rfl rfl rfl rfl rfl rfl ?_ ?_; (focus (omega)))
                                  all_goals (
                                    refine E.OW.nil ?_
                                    refine E.then_nf ?_
                                    refine ⟨[], [0, 0, 0, 0, 0, 0, 0, 0, 0, 0, 0, 0, 0, 0, 0, 0], [_], by repeat (first | exact E.cov_nil | refine ⟨rfl, ?_⟩), rfl, rfl, congrArg (fun r => [E.HP.row 4 1 (some ⟨QR, 0, .none⟩) g.l.length g.l.length (r)]) (E.ltb_set (by first | rfl | (unfold Rt.alw; simp_all; try exact Iff.rfl))), trivial⟩)
                                · rintro _ _ ⟨rfl, rfl, hI⟩
                                  refine E.CW.region ?_
                                  refine E.OW.pure rfl rfl rfl (E.PV.move rfl rfl) ?_
                                  refine E.OW.pure rfl rfl rfl (E.PV.move rfl rfl) ?_
                                  refine E.OW.pure rfl rfl rfl (E.PV.indexAddrA Try.underlying31 in3 rfl rfl rfl rfl ?_) ?_; (focus (omega))
                                  refine E.OW.store_ii (i := 1) in3.size rfl rfl rfl rfl rfl rfl ?_ ?_; (focus (omega))
                                  refine E.OW.nil ?_
                                  refine E.blk_n ?_
                                  refine E.then_n ?_
                                  refine E.CW.region ?_
                                  refine E.OW.pure rfl rfl rfl (E.PV.add_i64 rfl rfl rfl ?_) ?_; (focus (omega))
                                  refine E.OW.pure rfl rfl rfl (E.PV.move rfl rfl) ?_
                                  refine E.OW.nil ?_
                                  refine E.then_nf ?_
                                  refine ⟨_, [(152, _)], [1, 0, 0, 0, 0, 0, 0, 0, 0, 0, 0, 0, 0, 0, 0, 0], [_, _], ?_, by repeat (first | exact E.cov_nil | refine ⟨rfl, ?_⟩), rfl, j + 1, rfl, rfl, (by rw [E.iis_set_m1]), by omega⟩
                                  omega)
                            · simp only [E.b0, E.b1, E.b2, E.b3, E.b4, E.b5, E.b6, E.b7, E.b8, E.b9, E.b10, E.b11, E.b12, E.b13, E.b14, E.b15, E.b16, E.b17, E.b18, E.b19, E.b20, reduceCtorEq] at hc
                              all_goals (
                                refine E.CW.exit ?_
                                refine E.then_x ?_
                                refine E.then_x ?_
                                refine E.blk_eq ?_
                                refine E.then_n ?_
                                refine E.CW.cut [1, 3, 5, 7, 8, 12, 13, 19, 135, 136, 9999] 5 rfl rfl (fun mods Hm => ∃ Aa2 : Option Addr, ∃ ca2 : Nat, mods = [] ∧ Hm = [E.HP.row 3 1 (some ⟨QF, 0, .none⟩) g.l.length g.l.length (E.iis g.l.length fun _ => -1), E.HP.blk PB 93 [.int .i64 (g.s.length : Int), .slice (some ⟨QC, 0, .none⟩) g.l.length g.l.length, .slice Aa2 (k + 1) ca2, .slice Ad k cd, .slice (some ⟨QN, 0, .none⟩) g.l.length g.l.length], E.HP.row 89 1 Aa2 (k + 1) ca2 (E.slc2 (k + 1) (E.up Xa k (some ⟨QR, 0, .none⟩)) (fun _ => g.l.length) (E.up ua k g.l.length)), E.HP.rows 4 (k + 1) (E.up Xa k (some ⟨QR, 0, .none⟩)) (fun _ => g.l.length) (E.up ua k g.l.length) (fun (k : Nat) => E.bls g.l.length ((fun j => Rt.alw g.q t a b (k : Int) (j : Int))))] ∧ True) ?_ ?_
                                · skip
                                  obtain rfl : j = g.l.length := by omega
                                  refine E.CW.conv (E.cv_chunk 1 (E.HP.row 3 1 (some ⟨QF, 0, .none⟩) g.l.length g.l.length (E.iis g.l.length fun _ => -1)) rfl (by rw [E.iis_congr fun i hi => if_pos hi])) ?_
                                  refine E.CW.conv (E.cv_chunk 1 (E.HP.row 4 1 (some ⟨QR, 0, .none⟩) g.l.length g.l.length (E.bls g.l.length ((fun j => Rt.alw g.q t a b (k : Int) (j : Int))))) rfl (by rw [E.ltb_all])) ?_
                                  refine E.CW.drawx mixed [13] rfl ?_
                                  all_goals (refine E.AW.first 0 rfl (by kernel_rfl) (by kernel_rfl) (by kernel_rfl) rfl rfl rfl (E.PV.load (i := 0) na87 rfl rfl rfl rfl) ?_)
                                  all_goals (refine E.AW.first 1 rfl (by kernel_rfl) (by kernel_rfl) (by kernel_rfl) rfl rfl rfl (E.PV.load (i := 0) na87 rfl rfl rfl rfl) ?_)
                                  all_goals (refine E.AW.first 2 rfl (by kernel_rfl) (by kernel_rfl) (by kernel_rfl) rfl rfl rfl (E.PV.nilCheck rfl rfl) ?_)
                                  all_goals (refine E.AW.first 3 rfl (by kernel_rfl) (by kernel_rfl) (by kernel_rfl) rfl rfl rfl (E.PV.fieldAddr fa93_2 rfl rfl) ?_)
                                  all_goals (refine E.AW.first 5 rfl (by kernel_rfl) (by kernel_rfl) (by kernel_rfl) rfl rfl rfl (E.PV.move rfl rfl) ?_)
                                  all_goals (
                                    refine E.AW.two 4 6 (by kernel_rfl) rfl rfl ?ga10 ?gb10
                                    case' ga10 =>
                                        all_goals (refine E.OW.pure rfl rfl rfl (E.PV.load (i := 2) na90 rfl rfl rfl rfl) ?_)
                                        all_goals (first | (refine E.AW.nil [13] rfl ?_) | (refine E.AW.nil [14] rfl ?_) | (refine E.AW.nil [15] rfl ?_) | (refine E.AW.nil [16] rfl ?_) | (refine E.AW.nil [17] rfl ?_) | (refine E.AW.nil [18] rfl ?_) | (refine E.AW.nil [19] rfl ?_) | (refine E.AW.nil [12] rfl ?_) | (refine E.AW.nil [11] rfl ?_))
                                        all_goals (refine E.AW.one 6 (by kernel_rfl) rfl ?_)
                                        all_goals (refine E.OW.buildSlice (Et := 89) (sz := 1) (ps := [(0, .tmp 191)]) rfl rfl rfl rfl rfl (by simp) (by unfold maxLen; omega) (fun w => bsl90_1_0 _ _ _ w) (fun A42 => ?_))
                                        all_goals (first | (refine E.AW.nil [13] rfl ?_) | (refine E.AW.nil [14] rfl ?_) | (refine E.AW.nil [15] rfl ?_) | (refine E.AW.nil [16] rfl ?_) | (refine E.AW.nil [17] rfl ?_) | (refine E.AW.nil [18] rfl ?_) | (refine E.AW.nil [19] rfl ?_) | (refine E.AW.nil [12] rfl ?_) | (refine E.AW.nil [11] rfl ?_))
                                        all_goals (refine E.AW.one 7 (by kernel_rfl) rfl ?_)
                                        all_goals (refine E.OW.append (i := 4) Try.underlying90 in89 rfl rfl (by decide) rfl rfl rfl rfl rfl rfl rfl (E.rdr (i := 0) rfl) ?_ ?_ ?_ ?_ (fun A43 c43 => ?_); (focus ((first | rfl | (simp; done) | omega))); (focus ((first | exact E.ints_one | exact E.u8s_one | (simp [Value.oneCell']; done)))); (focus ((unfold maxLen; omega))); (focus ((first | omega | (simp only [List.length_append, List.length_cons, List.length_nil] at *; omega) | (unfold maxLen at *; omega)))))
                                        all_goals (first | (refine E.AW.nil [13] rfl ?_) | (refine E.AW.nil [14] rfl ?_) | (refine E.AW.nil [15] rfl ?_) | (refine E.AW.nil [16] rfl ?_) | (refine E.AW.nil [17] rfl ?_) | (refine E.AW.nil [18] rfl ?_) | (refine E.AW.nil [19] rfl ?_) | (refine E.AW.nil [12] rfl ?_) | (refine E.AW.nil [11] rfl ?_))
                                        all_goals (refine E.AW.first 8 rfl (by kernel_rfl) (by kernel_rfl) (by kernel_rfl) rfl rfl rfl (E.PV.nilCheck rfl rfl) ?_)
                                        all_goals (refine E.AW.first 9 rfl (by kernel_rfl) (by kernel_rfl) (by kernel_rfl) rfl rfl rfl (E.PV.fieldAddr fa93_2 rfl rfl) ?_)
                                        all_goals (refine E.AW.one 10 (by kernel_rfl) rfl ?_)
                                        all_goals (refine E.OW.store (i := 4) in90.size rfl rfl rfl rfl rfl rfl rfl rfl rfl ?_)
                                        all_goals (first | (refine E.AW.nil [13] rfl ?_) | (refine E.AW.nil [14] rfl ?_) | (refine E.AW.nil [15] rfl ?_) | (refine E.AW.nil [16] rfl ?_) | (refine E.AW.nil [17] rfl ?_) | (refine E.AW.nil [18] rfl ?_) | (refine E.AW.nil [19] rfl ?_) | (refine E.AW.nil [12] rfl ?_) | (refine E.AW.nil [11] rfl ?_))
                                        all_goals (refine E.AW.conv (E.cv_snocN 1 rfl rfl) ?_)
                                        all_goals (refine E.AW.conv (E.cv_rows_snocN 3 4 rfl rfl rfl) ?_)
                                        all_goals (refine E.AW.done (by kernel_rfl) ?_)
                                    case' gb10 =>
                                        all_goals (refine E.OW.buildSlice (Et := 89) (sz := 1) (ps := [(0, .tmp 191)]) rfl rfl rfl rfl rfl (by simp) (by unfold maxLen; omega) (fun w => bsl90_1_0 _ _ _ w) (fun A44 => ?_))
                                        all_goals (first | (refine E.AW.nil [13] rfl ?_) | (refine E.AW.nil [14] rfl ?_) | (refine E.AW.nil [15] rfl ?_) | (refine E.AW.nil [16] rfl ?_) | (refine E.AW.nil [17] rfl ?_) | (refine E.AW.nil [18] rfl ?_) | (refine E.AW.nil [19] rfl ?_) | (refine E.AW.nil [12] rfl ?_) | (refine E.AW.nil [11] rfl ?_))
                                        all_goals (refine E.AW.one 4 (by kernel_rfl) rfl ?_)
                                        all_goals (refine E.OW.pure rfl rfl rfl (E.PV.load (i := 3) na90 rfl rfl rfl rfl) ?_)
                                        all_goals (first | (refine E.AW.nil [13] rfl ?_) | (refine E.AW.nil [14] rfl ?_) | (refine E.AW.nil [15] rfl ?_) | (refine E.AW.nil [16] rfl ?_) | (refine E.AW.nil [17] rfl ?_) | (refine E.AW.nil [18] rfl ?_) | (refine E.AW.nil [19] rfl ?_) | (refine E.AW.nil [12] rfl ?_) | (refine E.AW.nil [11] rfl ?_))
                                        all_goals (refine E.AW.one 7 (by kernel_rfl) rfl ?_)
                                        all_goals (refine E.OW.append (i := 4) Try.underlying90 in89 rfl rfl (by decide) rfl rfl rfl rfl rfl rfl rfl (E.rdr (i := 0) rfl) ?_ ?_ ?_ ?_ (fun A45 c45 => ?_); (focus ((first | rfl | (simp; done) | omega))); (focus ((first | exact E.ints_one | exact E.u8s_one | (simp [Value.oneCell']; done)))); (focus ((unfold maxLen; omega))); (focus ((first | omega | (simp only [List.length_append, List.length_cons, List.length_nil] at *; omega) | (unfold maxLen at *; omega)))))
                                        all_goals (first | (refine E.AW.nil [13] rfl ?_) | (refine E.AW.nil [14] rfl ?_) | (refine E.AW.nil [15] rfl ?_) | (refine E.AW.nil [16] rfl ?_) | (refine E.AW.nil [17] rfl ?_) | (refine E.AW.nil [18] rfl ?_) | (refine E.AW.nil [19] rfl ?_) | (refine E.AW.nil [12] rfl ?_) | (refine E.AW.nil [11] rfl ?_))
                                        all_goals (refine E.AW.first 8 rfl (by kernel_rfl) (by kernel_rfl) (by kernel_rfl) rfl rfl rfl (E.PV.nilCheck rfl rfl) ?_)
                                        all_goals (refine E.AW.first 9 rfl (by kernel_rfl) (by kernel_rfl) (by kernel_rfl) rfl rfl rfl (E.PV.fieldAddr fa93_2 rfl rfl) ?_)
                                        all_goals (refine E.AW.one 10 (by kernel_rfl) rfl ?_)
                                        all_goals (refine E.OW.store (i := 4) in90.size rfl rfl rfl rfl rfl rfl rfl rfl rfl ?_)
                                        all_goals (first | (refine E.AW.nil [13] rfl ?_) | (refine E.AW.nil [14] rfl ?_) | (refine E.AW.nil [15] rfl ?_) | (refine E.AW.nil [16] rfl ?_) | (refine E.AW.nil [17] rfl ?_) | (refine E.AW.nil [18] rfl ?_) | (refine E.AW.nil [19] rfl ?_) | (refine E.AW.nil [12] rfl ?_) | (refine E.AW.nil [11] rfl ?_))
                                        all_goals (refine E.AW.conv (E.cv_snocN 1 rfl rfl) ?_)
                                        all_goals (refine E.AW.conv (E.cv_rows_snocN 3 4 rfl rfl rfl) ?_)
                                        all_goals (refine E.AW.done (by kernel_rfl) ?_))
                                  all_goals (
                                    skip
                                    refine E.then_nf ?_
                                    refine ⟨[], [4, 2, 1, 0, 1, 1, 1, 1, 1, 1, 1, 1, 1, 1, 1], [_, _, _, _], by repeat (first | exact E.cov_nil | refine ⟨rfl, ?_⟩), rfl, _, _, rfl, rfl, trivial⟩)
                                · rintro _ _ ⟨Aa2, ca2, rfl, rfl, hI⟩
                                  refine E.CW.drawx mixed [12] rfl ?_
                                  all_goals (refine E.AW.first 0 rfl (by kernel_rfl) (by kernel_rfl) (by kernel_rfl) rfl rfl rfl (E.PV.load (i := 0) na87 rfl rfl rfl rfl) ?_)
                                  all_goals (refine E.AW.first 1 rfl (by kernel_rfl) (by kernel_rfl) (by kernel_rfl) rfl rfl rfl (E.PV.load (i := 0) na87 rfl rfl rfl rfl) ?_)
                                  all_goals (refine E.AW.first 2 rfl (by kernel_rfl) (by kernel_rfl) (by kernel_rfl) rfl rfl rfl (E.PV.nilCheck rfl rfl) ?_)
                                  all_goals (refine E.AW.first 3 rfl (by kernel_rfl) (by kernel_rfl) (by kernel_rfl) rfl rfl rfl (E.PV.fieldAddr fa93_3 rfl rfl) ?_)
                                  all_goals (refine E.AW.first 5 rfl (by kernel_rfl) (by kernel_rfl) (by kernel_rfl) rfl rfl rfl (E.PV.move rfl rfl) ?_)
                                  all_goals (
                                    refine E.AW.two 4 6 (by kernel_rfl) rfl rfl ?ga11 ?gb11
                                    case' ga11 =>
                                        all_goals (refine E.OW.pure rfl rfl rfl (E.PV.load (i := 1) na91 rfl rfl rfl rfl) ?_)
                                        all_goals (first | (refine E.AW.nil [12] rfl ?_) | (refine E.AW.nil [13] rfl ?_) | (refine E.AW.nil [14] rfl ?_) | (refine E.AW.nil [15] rfl ?_) | (refine E.AW.nil [16] rfl ?_) | (refine E.AW.nil [17] rfl ?_) | (refine E.AW.nil [18] rfl ?_) | (refine E.AW.nil [11] rfl ?_) | (refine E.AW.nil [10] rfl ?_))
                                        all_goals (refine E.AW.one 6 (by kernel_rfl) rfl ?_)
                                        all_goals (refine E.OW.buildSlice (Et := 31) (sz := 1) (ps := [(0, .tmp 201)]) rfl rfl rfl rfl rfl (by simp) (by unfold maxLen; omega) (fun w => bsl91_1_0 _ _ _ w) (fun A46 => ?_))
                                        all_goals (first | (refine E.AW.nil [12] rfl ?_) | (refine E.AW.nil [13] rfl ?_) | (refine E.AW.nil [14] rfl ?_) | (refine E.AW.nil [15] rfl ?_) | (refine E.AW.nil [16] rfl ?_) | (refine E.AW.nil [17] rfl ?_) | (refine E.AW.nil [18] rfl ?_) | (refine E.AW.nil [11] rfl ?_) | (refine E.AW.nil [10] rfl ?_))
                                        all_goals (refine E.AW.one 7 (by kernel_rfl) rfl ?_)
                                        all_goals (refine E.OW.append (i := 5) Try.underlying91 in31 rfl rfl (by decide) rfl rfl rfl rfl rfl rfl rfl (E.rdr (i := 0) rfl) ?_ ?_ ?_ ?_ (fun A47 c47 => ?_); (focus ((first | rfl | (simp; done) | omega))); (focus ((first | exact E.ints_one | exact E.u8s_one | (simp [Value.oneCell']; done)))); (focus ((unfold maxLen; omega))); (focus ((first | omega | (simp only [List.length_append, List.length_cons, List.length_nil] at *; omega) | (unfold maxLen at *; omega)))))
                                        all_goals (first | (refine E.AW.nil [12] rfl ?_) | (refine E.AW.nil [13] rfl ?_) | (refine E.AW.nil [14] rfl ?_) | (refine E.AW.nil [15] rfl ?_) | (refine E.AW.nil [16] rfl ?_) | (refine E.AW.nil [17] rfl ?_) | (refine E.AW.nil [18] rfl ?_) | (refine E.AW.nil [11] rfl ?_) | (refine E.AW.nil [10] rfl ?_))
                                        all_goals (refine E.AW.first 8 rfl (by kernel_rfl) (by kernel_rfl) (by kernel_rfl) rfl rfl rfl (E.PV.nilCheck rfl rfl) ?_)
                                        all_goals (refine E.AW.first 9 rfl (by kernel_rfl) (by kernel_rfl) (by kernel_rfl) rfl rfl rfl (E.PV.fieldAddr fa93_3 rfl rfl) ?_)
                                        all_goals (refine E.AW.one 10 (by kernel_rfl) rfl ?_)
                                        all_goals (refine E.OW.store (i := 3) in91.size rfl rfl rfl rfl rfl rfl rfl rfl rfl ?_)
                                        all_goals (first | (refine E.AW.nil [12] rfl ?_) | (refine E.AW.nil [13] rfl ?_) | (refine E.AW.nil [14] rfl ?_) | (refine E.AW.nil [15] rfl ?_) | (refine E.AW.nil [16] rfl ?_) | (refine E.AW.nil [17] rfl ?_) | (refine E.AW.nil [18] rfl ?_) | (refine E.AW.nil [11] rfl ?_) | (refine E.AW.nil [10] rfl ?_))
                                        all_goals (refine E.AW.conv (E.cv_snocN 1 rfl rfl) ?_)
                                        all_goals (refine E.AW.conv (E.cv_rows_snocN 3 5 rfl rfl rfl) ?_)
                                        all_goals (refine E.AW.done (by kernel_rfl) ?_)
                                    case' gb11 =>
                                        all_goals (refine E.OW.buildSlice (Et := 31) (sz := 1) (ps := [(0, .tmp 201)]) rfl rfl rfl rfl rfl (by simp) (by unfold maxLen; omega) (fun w => bsl91_1_0 _ _ _ w) (fun A48 => ?_))
                                        all_goals (first | (refine E.AW.nil [12] rfl ?_) | (refine E.AW.nil [13] rfl ?_) | (refine E.AW.nil [14] rfl ?_) | (refine E.AW.nil [15] rfl ?_) | (refine E.AW.nil [16] rfl ?_) | (refine E.AW.nil [17] rfl ?_) | (refine E.AW.nil [18] rfl ?_) | (refine E.AW.nil [11] rfl ?_) | (refine E.AW.nil [10] rfl ?_))
                                        all_goals (refine E.AW.one 4 (by kernel_rfl) rfl ?_)
                                        all_goals (refine E.OW.pure rfl rfl rfl (E.PV.load (i := 2) na91 rfl rfl rfl rfl) ?_)
                                        all_goals (first | (refine E.AW.nil [12] rfl ?_) | (refine E.AW.nil [13] rfl ?_) | (refine E.AW.nil [14] rfl ?_) | (refine E.AW.nil [15] rfl ?_) | (refine E.AW.nil [16] rfl ?_) | (refine E.AW.nil [17] rfl ?_) | (refine E.AW.nil [18] rfl ?_) | (refine E.AW.nil [11] rfl ?_) | (refine E.AW.nil [10] rfl ?_))
                                        all_goals (refine E.AW.one 7 (by kernel_rfl) rfl ?_)
                                        all_goals (refine E.OW.append (i := 5) Try.underlying91 in31 rfl rfl (by decide) rfl rfl rfl rfl rfl rfl rfl (E.rdr (i := 0) rfl) ?_ ?_ ?_ ?_ (fun A49 c49 => ?_); (focus ((first | rfl | (simp; done) | omega))); (focus ((first | exact E.ints_one | exact E.u8s_one | (simp [Value.oneCell']; done)))); (focus ((unfold maxLen; omega))); (focus ((first | omega | (simp only [List.length_append, List.length_cons, List.length_nil] at *; omega) | (unfold maxLen at *; omega)))))
                                        all_goals (first | (refine E.AW.nil [12] rfl ?_) | (refine E.AW.nil [13] rfl ?_) | (refine E.AW.nil [14] rfl ?_) | (refine E.AW.nil [15] rfl ?_) | (refine E.AW.nil [16] rfl ?_) | (refine E.AW.nil [17] rfl ?_) | (refine E.AW.nil [18] rfl ?_) | (refine E.AW.nil [11] rfl ?_) | (refine E.AW.nil [10] rfl ?_))
                                        all_goals (refine E.AW.first 8 rfl (by kernel_rfl) (by kernel_rfl) (by kernel_rfl) rfl rfl rfl (E.PV.nilCheck rfl rfl) ?_)
                                        all_goals (refine E.AW.first 9 rfl (by kernel_rfl) (by kernel_rfl) (by kernel_rfl) rfl rfl rfl (E.PV.fieldAddr fa93_3 rfl rfl) ?_)
                                        all_goals (refine E.AW.one 10 (by kernel_rfl) rfl ?_)
                                        all_goals (refine E.OW.store (i := 3) in91.size rfl rfl rfl rfl rfl rfl rfl rfl rfl ?_)
                                        all_goals (first | (refine E.AW.nil [12] rfl ?_) | (refine E.AW.nil [13] rfl ?_) | (refine E.AW.nil [14] rfl ?_) | (refine E.AW.nil [15] rfl ?_) | (refine E.AW.nil [16] rfl ?_) | (refine E.AW.nil [17] rfl ?_) | (refine E.AW.nil [18] rfl ?_) | (refine E.AW.nil [11] rfl ?_) | (refine E.AW.nil [10] rfl ?_))
                                        all_goals (refine E.AW.conv (E.cv_snocN 1 rfl rfl) ?_)
                                        all_goals (refine E.AW.conv (E.cv_rows_snocN 3 5 rfl rfl rfl) ?_)
                                        all_goals (refine E.AW.done (by kernel_rfl) ?_))
                                  all_goals (
                                    skip
                                    refine E.blk_n ?_
                                    refine E.then_n ?_
                                    refine E.CW.region ?_
                                    refine E.OW.pure rfl rfl rfl (E.PV.add_i64 rfl rfl rfl ?_) ?_; (focus (omega))
                                    refine E.OW.pure rfl rfl rfl (E.PV.move rfl rfl) ?_
                                    refine E.OW.nil ?_
                                    refine E.then_nf ?_
                                    refine ⟨_, [(136, _)], [2, 3, 3, 1, 0, 1, 1, 1, 1, 1, 1, 1, 1, 1], [_, _, _, _, _], ?_, by repeat (first | exact E.cov_nil | refine ⟨rfl, ?_⟩), rfl, k + 1, _, _, _, _, _, _, _, _, rfl, rfl, rfl, by omega⟩
                                    omega)))
                    · simp only [E.b0, E.b1, E.b2, E.b3, E.b4, E.b5, E.b6, E.b7, E.b8, E.b9, E.b10, E.b11, E.b12, E.b13, E.b14, E.b15, E.b16, E.b17, E.b18, E.b19, E.b20, reduceCtorEq] at hc
                      all_goals (
                        refine E.CW.exit ?_
                        refine E.then_x ?_
                        refine E.then_x ?_
                        refine E.blk_eq ?_
                        refine E.then_n ?_
                        refine E.CW.seq ?_
                        obtain rfl : k = g.s.length := by omega
                        refine E.CW.conv (E.cv_gather [0, 8, 0, 0, 0, 2, 1, 0, 0, 0, 0, 0, 0, 0] 7 rfl rfl) ?_
                        refine E.CW.conv (E.cv_chunk 0 (E.HP.pl0 ⟨PB, (Rt.G g.q t a b), (some ⟨QC, 0, .none⟩), g.l.length, Aa, ca, Xa, ua, Ad, cd, Xd, ud, (some ⟨QN, 0, .none⟩), g.l.length, Xn, un⟩) rfl rfl) ?_
                        refine E.CW.conv (E.cv_chunk 1 (E.HP.dist ⟨PB, (Rt.G g.q t a b), (some ⟨QC, 0, .none⟩), g.l.length, Aa, ca, Xa, ua, Ad, cd, Xd, ud, (some ⟨QN, 0, .none⟩), g.l.length, Xn, un⟩ fun _ _ => -1) rfl rfl) ?_
                        refine E.CW.region ?_
                        refine E.OW.pure rfl rfl rfl (E.PV.load (i := 5) na87 rfl rfl rfl rfl) ?_
                        refine E.OW.pure rfl rfl rfl (E.PV.fieldAddr fa30_1 rfl rfl) ?_
                        refine E.OW.pure rfl rfl rfl (E.PV.load (i := 6) na3 rfl rfl rfl rfl) ?_
                        refine E.OW.put 209 (.int .i64 ((b.toNat : Nat) : Int)) rfl (congrArg (Value.int .i64) (Int.toNat_of_nonneg hrb.1).symm) ?_
                        refine E.OW.callM nm103 rfl rfl rfl rfl rfl rfl _ 0 rfl (fun w S hw hs hb hc => fill_ok ⟨PB, (Rt.G g.q t a b), (some ⟨QC, 0, .none⟩), g.l.length, Aa, ca, Xa, ua, Ad, cd, Xd, ud, (some ⟨QN, 0, .none⟩), g.l.length, Xn, un⟩ S w hs (fun k hk => (hb k hk).1) (E.rd0_in hc (i := 0) rfl) (Rt.G_ok hL) hn64 hs16.2 (Rt.G_near _ _ _ _)) ?_; rintro _ _ ⟨DF, rfl, hDF⟩
                        refine E.OW.cvt (E.cv_gather [1, 0, 0, 0, 0, 0, 0, 0] 2 rfl rfl) ?_
                        refine E.OW.cvt (E.cv_chunk 0 (E.HP.plan ⟨PB, (Rt.G g.q t a b), (some ⟨QC, 0, .none⟩), g.l.length, Aa, ca, Xa, ua, Ad, cd, Xd, ud, (some ⟨QN, 0, .none⟩), g.l.length, Xn, un⟩ DF) rfl rfl) ?_
                        refine E.OW.nil ?_
                        refine E.then_n ?_
                        refine E.CW.seq ?_
                        refine E.CW.region ?_
                        refine E.OW.pure rfl rfl rfl (E.PV.load (i := 4) na87 rfl rfl rfl rfl) ?_
                        refine E.OW.pure rfl rfl rfl (E.PV.assign rfl rfl) ?_
                        refine E.OW.nil ?_
                        refine E.then_n ?_
                        refine E.CW.ret ?_
                        refine E.KRM.one [3, 0] rfl Try.results59 rfl rfl ?_
                        exact ⟨_, _, rfl, rfl, rfl, hDF⟩)))
end Go.Proofs.Ytflkbabhbnmajaa

/- Arrivals, routes, reached places, plainly: no program in sight. -/
set_option linter.unusedSimpArgs false
set_option linter.unusedVariables false
namespace Go.Proofs.Ytflkbabhbnmajaa
namespace Bf
/-- the search ends. -/
theorem Part.run {x : G} (ok : x.ok) {q0 : List (Nat × Nat)} {h : Nat} : ∀ (m : Nat) {D : DD} {q : List (Nat × Nat)} {j : Nat}, Part x D q h j → at_ q h = at_ q0 h → (x.nr (at_ q0 h).1).length ≤ j + m → ∃ D' q', Base x D' q' (h + 1) ∧ (∀ k, k < x.K → D' k x.goal = 0) ∧ h < q'.length := by
  intro m
  induction m with
  | zero => intro D q j a e hl; exact ⟨D, q, a.done (by rw [e]; omega), a.g, a.hl⟩
  | succ m ih =>
    intro D q j a e hl
    rcases Nat.lt_or_ge j (x.nr (at_ q0 h).1).length with hj | hj
    · cases hc : x.cell ((x.nr (at_ q h).1).getD j 0) with
      | true => exact ih (a.see ok (by rw [e]; exact hj) hc) ((seeQ_at a.hl).trans e) (by omega)
      | false => exact ih (a.skip hc) e (by omega)
    · exact ⟨D, q, a.done (by rw [e]; omega), a.g, a.hl⟩
theorem run_from {x : G} (ok : x.ok) : ∀ (m : Nat) {D : DD} {q : List (Nat × Nat)} {h : Nat}, Base x D q h → (∀ k, k < x.K → D k x.goal = 0) → h ≤ q.length → x.n * x.K ≤ h + m → ∃ D q, Base x D q q.length ∧ ∀ k, k < x.K → D k x.goal = 0 := by
  intro m
  induction m with
  | zero =>
    intro D q h b g hq hm
    have := len_le b
    have : h = q.length := by omega
    subst this
    exact ⟨D, q, b, g⟩
  | succ m ih =>
    intro D q h b g hq hm
    rcases Nat.lt_or_ge h q.length with hh | hh
    · obtain ⟨D', q', b', g', hl⟩ := Part.run ok (q0 := q) (x.nr (at_ q h).1).length (b.part hh g) rfl (by omega)
      exact ih b' g' hl (by omega)
    · have : h = q.length := by omega
      subst this
      exact ⟨D, q, b, g⟩
theorem Start.run {x : G} (ok : x.ok) : ∀ j, j ≤ x.K → ∃ D q, Start x D q j := by
  intro j
  induction j with
  | zero => intro _; exact ⟨_, _, Start.zero x (D := fun _ _ => -1) fun _ _ => rfl⟩
  | succ j ih => intro hj; obtain ⟨D, q, h⟩ := ih (by omega); exact ⟨_, _, h.see ok (by omega)⟩
theorem run {x : G} (ok : x.ok) : ∃ D q, Base x D q q.length ∧ ∀ k, k < x.K → D k x.goal = 0 := by
  obtain ⟨D, q, h⟩ := Start.run ok x.K (Nat.le_refl _)
  exact run_from ok (x.n * x.K) h.b (fun k hk => h.g k hk) (Nat.zero_le _) (by omega)
/-- the length of a shortest walk, or -1. -/
noncomputable def arr (x : G) (k p : Nat) : Int := open Classical in if h : ∃ v, Ar x k p v then Classical.choose h else -1
theorem arr_of {x : G} {k p : Nat} {v : Int} (h : Ar x k p v) : arr x k p = v := by
  have he : ∃ v, Ar x k p v := ⟨v, h⟩
  unfold arr
  rw [dif_pos he]
  exact (Classical.choose_spec he).uniq h
theorem arr_ar {x : G} (ok : x.ok) {k p : Nat} (hk : k < x.K) (hp : p < x.n) (hc : x.cell p = true) : Ar x k p (arr x k p) := by
  obtain ⟨D, q, b, g⟩ := run ok
  have := b.ar ok g hk hp hc
  rw [arr_of this]; exact this
/-- where a walk of m steps from a can be. -/
def R (x : G) (k0 a : Nat) : Nat → Nat → Bool
  | 0, q => decide (q = a)
  | m + 1, q => ((List.range x.n).any fun p => R x k0 a m p && decide (q ∈ x.nr p)) && x.al ((k0 + m + 1) % x.K) q
theorem R_succ {x : G} {k0 a m q : Nat} : R x k0 a (m + 1) q = true ↔ (∃ p, p < x.n ∧ R x k0 a m p = true ∧ q ∈ x.nr p) ∧ x.al ((k0 + m + 1) % x.K) q = true := by
  show (((List.range x.n).any fun p => R x k0 a m p && decide (q ∈ x.nr p)) && x.al ((k0 + m + 1) % x.K) q) = true ↔ _
  rw [Bool.and_eq_true, List.any_eq_true]
  constructor
  · rintro ⟨⟨p, h1, h2⟩, h3⟩
    rw [Bool.and_eq_true, decide_eq_true_eq] at h2
    exact ⟨⟨p, List.mem_range.1 h1, h2.1, h2.2⟩, h3⟩
  · rintro ⟨⟨p, h1, h2, h4⟩, h3⟩
    exact ⟨⟨p, List.mem_range.2 h1, by rw [Bool.and_eq_true, decide_eq_true_eq]; exact ⟨h2, h4⟩⟩, h3⟩
theorem R_lt {x : G} (ok : x.ok) {k0 a : Nat} (ha : a < x.n) : ∀ {m q : Nat}, R x k0 a m q = true → q < x.n := by
  intro m q h
  cases m with
  | zero => have : q = a := of_decide_eq_true h; omega
  | succ m => obtain ⟨⟨p, h1, _, h3⟩, _⟩ := R_succ.1 h; exact ok.nrlt p q h1 h3
theorem R_W {x : G} (ok : x.ok) {k0 a : Nat} (ha : a < x.n) : ∀ m j p, R x k0 a j p = true → W x m ((k0 + j) % x.K) p → R x k0 a (j + m) x.goal = true := by
  intro m
  induction m with
  | zero => intro j p h1 h2; have : p = x.goal := h2; subst this; exact h1
  | succ m ih =>
    intro j p h1 ⟨q, h2, h3, h4⟩
    rw [Nat.mod_add_mod] at h3 h4
    have h5 : R x k0 a (j + 1) q = true := R_succ.2 ⟨⟨p, R_lt ok ha h1, h1, h2⟩, h3⟩
    have := ih (j + 1) q h5 (by rw [show k0 + (j + 1) = k0 + j + 1 by omega]; exact h4)
    rw [show j + (m + 1) = j + 1 + m by omega]; exact this
theorem W_R {x : G} {k0 a : Nat} : ∀ m j, R x k0 a (j + m) x.goal = true → ∃ p, R x k0 a j p = true ∧ W x m ((k0 + j) % x.K) p := by
  intro m
  induction m with
  | zero => intro j h; exact ⟨x.goal, h, rfl⟩
  | succ m ih =>
    intro j h
    obtain ⟨p, h1, h2⟩ := ih (j + 1) (by rw [show j + 1 + m = j + (m + 1) by omega]; exact h)
    obtain ⟨⟨p', _, h4, h5⟩, h6⟩ := R_succ.1 h1
    refine ⟨p', h4, p, h5, ?_, ?_⟩
    · rw [Nat.mod_add_mod]; exact h6
    · rw [Nat.mod_add_mod]; rw [show k0 + (j + 1) = k0 + j + 1 by omega] at h2; exact h2
theorem R_iff {x : G} (ok : x.ok) {k0 a : Nat} (ha : a < x.n) (hk : k0 < x.K) (m : Nat) : R x k0 a m x.goal = true ↔ W x m k0 a := by
  constructor
  · intro h
    obtain ⟨p, h1, h2⟩ := W_R m 0 (by rw [Nat.zero_add]; exact h)
    have : p = a := of_decide_eq_true h1
    subst this
    rw [Nat.add_zero, Nat.mod_eq_of_lt hk] at h2; exact h2
  · intro h
    have := R_W ok ha m 0 a (decide_eq_true rfl) (by rw [Nat.add_zero, Nat.mod_eq_of_lt hk]; exact h)
    rwa [Nat.zero_add] at this
/-- the next place of a route: from the state of the next tick. -/
noncomputable def nx (x : G) (k p : Nat) (n : Int) : Nat := ((x.nr p).find? fun q => x.al k q && decide (arr x k q = n - 1)).getD p
theorem nx_at {x : G} {k p j : Nat} {n : Int} (hj : j < (x.nr p).length) (h1 : ∀ i, i < j → (x.al k ((x.nr p).getD i 0) && decide (arr x k ((x.nr p).getD i 0) = n - 1)) = false) (h2 : (x.al k ((x.nr p).getD j 0) && decide (arr x k ((x.nr p).getD j 0) = n - 1)) = true) :
    nx x k p n = (x.nr p).getD j 0 := by
  unfold nx
  have : (x.nr p).find? (fun q => x.al k q && decide (arr x k q = n - 1)) = some ((x.nr p).getD j 0) := by
    rw [List.find?_eq_some_iff_getElem]
    refine ⟨h2, j, hj, by simp [List.getD, hj], fun i hi => ?_⟩
    have := h1 i hi
    rw [List.getD_eq_getElem?_getD, List.getElem?_eq_getElem (by omega), Option.getD_some] at this
    rw [this]; rfl
  rw [this]; rfl
theorem nx_none {x : G} {k p : Nat} {n : Int} (h1 : ∀ i, i < (x.nr p).length → (x.al k ((x.nr p).getD i 0) && decide (arr x k ((x.nr p).getD i 0) = n - 1)) = false) : nx x k p n = p := by
  unfold nx
  have : (x.nr p).find? (fun q => x.al k q && decide (arr x k q = n - 1)) = none := by
    rw [List.find?_eq_none]
    intro q hq
    obtain ⟨i, hi, rfl⟩ := List.getElem_of_mem hq
    have := h1 i hi
    rw [List.getD_eq_getElem?_getD, List.getElem?_eq_getElem hi, Option.getD_some] at this
    rw [this]; decide
  rw [this]; rfl
/-- a route: m places behind p, from the phase k on. -/
noncomputable def rt (x : G) : Nat → Nat → Nat → List Nat
  | 0, _, p => [p]
  | m + 1, k, p => p :: rt x m ((k + 1) % x.K) (nx x ((k + 1) % x.K) p ((m : Int) + 1))
theorem rt_len (x : G) : ∀ m k p, (rt x m k p).length = m + 1 := by
  intro m
  induction m with
  | zero => intro k p; rfl
  | succ m ih => intro k p; simp only [rt, List.length_cons, ih]
theorem rt_head (x : G) : ∀ m k p, ∃ r, rt x m k p = p :: r := by
  intro m k p
  cases m with
  | zero => exact ⟨[], rfl⟩
  | succ m => exact ⟨_, rfl⟩
/-- the next place of a place with the arrival m + 1 is a neighbour with the arrival m. -/
theorem nx_ok {x : G} (ok : x.ok) {k p m : Nat} (hk : k < x.K) (hp : p < x.n) (hc : x.cell p = true) (h : arr x k p = (m : Int) + 1) :
    nx x ((k + 1) % x.K) p ((m : Int) + 1) ∈ x.nr p ∧ x.al ((k + 1) % x.K) (nx x ((k + 1) % x.K) p ((m : Int) + 1)) = true ∧ arr x ((k + 1) % x.K) (nx x ((k + 1) % x.K) p ((m : Int) + 1)) = m := by
  have ha := arr_ar ok hk hp hc
  rw [h] at ha
  rcases ha with ⟨h1, _⟩ | ⟨_, _, hw, hmin⟩
  · omega
  · rw [show ((m : Int) + 1).toNat = m + 1 by omega] at hw
    obtain ⟨q, h1, h2, h3⟩ := hw
    have hk1 : (k + 1) % x.K < x.K := Nat.mod_lt _ ok.K0
    have hq := ok.nrlt p q hp h1
    have hq2 : arr x ((k + 1) % x.K) q = m := by
      rcases arr_ar ok hk1 hq (ok.alc _ _ h2) with ⟨_, g2⟩ | ⟨g1, _, g2, g3⟩
      · exact absurd h3 (g2 m)
      · have h4 := g3 m h3
        have h5 := hmin ((arr x ((k + 1) % x.K) q).toNat + 1) ⟨q, h1, h2, g2⟩
        omega
    unfold nx
    cases hf : (x.nr p).find? (fun q => x.al ((k + 1) % x.K) q && decide (arr x ((k + 1) % x.K) q = (m : Int) + 1 - 1)) with
    | none =>
      have := List.find?_eq_none.1 hf q h1
      simp only [h2, Bool.true_and, decide_eq_true_eq] at this
      omega
    | some r =>
      have h4 := List.find?_some hf
      have h5 := List.mem_of_find?_eq_some hf
      simp only [Bool.and_eq_true, decide_eq_true_eq] at h4
      exact ⟨h5, h4.1, by have := h4.2; simp only [Option.getD_some]; omega⟩
end Bf
namespace Rt
open Cf
/-- the places that f tells, in increasing order. -/
def pls (n : Nat) (f : Nat → Bool) : List Int := ((List.range n).filter f).map fun (p : Nat) => (p : Int)
theorem pls_yes {n : Nat} {f : Nat → Bool} (h : f n = true) : pls (n + 1) f = pls n f ++ [(n : Int)] := by
  unfold pls; rw [List.range_succ, List.filter_append, List.map_append]; simp only [List.filter_cons, h, if_true, List.filter_nil, List.map_cons, List.map_nil]
theorem pls_no {n : Nat} {f : Nat → Bool} (h : f n = false) : pls (n + 1) f = pls n f := by
  unfold pls; rw [List.range_succ, List.filter_append, List.map_append]; simp only [List.filter_cons, h, Bool.false_eq_true, if_false, List.filter_nil, List.map_nil, List.append_nil]
theorem pls_len (n : Nat) (f : Nat → Bool) : (pls n f).length ≤ n := by
  unfold pls; rw [List.length_map]; have := List.length_filter_le f (List.range n); simpa using this
theorem pls_mem {n : Nat} {f : Nat → Bool} {p : Int} : p ∈ pls n f ↔ 0 ≤ p ∧ p < n ∧ f p.toNat = true := by
  unfold pls
  simp only [List.mem_map, List.mem_filter, List.mem_range]
  constructor
  · rintro ⟨q, ⟨h1, h2⟩, rfl⟩; exact ⟨by omega, by omega, by simpa using h2⟩
  · rintro ⟨h1, h2, h3⟩; exact ⟨p.toNat, ⟨by omega, h3⟩, by omega⟩
def ph (g : C) (tick : Int) : Nat := (tick % (g.s.length : Int)).toNat
theorem ph_lt {g : C} (h : check g = 0) (tick : Int) : ph g tick < g.s.length := by
  have := per_of h
  have h1 := Int.emod_nonneg tick (show (g.s.length : Int) ≠ 0 by omega)
  have h2 := Int.emod_lt_of_pos tick (show (0 : Int) < g.s.length by omega)
  unfold ph; omega
theorem ph_int {g : C} (h : check g = 0) (tick : Int) : tick % (g.s.length : Int) = ((ph g tick : Nat) : Int) := by
  have := per_of h
  have h1 := Int.emod_nonneg tick (show (g.s.length : Int) ≠ 0 by omega)
  unfold ph; omega
theorem ph_add {g : C} (h : check g = 0) {tick : Int} (m : Nat) : ph g (tick + (m : Int)) = (ph g tick + m) % g.s.length := by
  have h1 := ph_int h (tick + (m : Int))
  have h2 := ph_int h tick
  have h3 : (((ph g tick + m) % g.s.length : Nat) : Int) = tick % (g.s.length : Int) + (m : Int) - ((tick % (g.s.length : Int) + (m : Int)) / (g.s.length : Int)) * (g.s.length : Int) := by
    rw [h2, Int.natCast_emod, Int.natCast_add, Int.emod_def]
    rw [Int.mul_comm]
  have h4 : (tick + (m : Int)) % (g.s.length : Int) = (tick % (g.s.length : Int) + (m : Int)) % (g.s.length : Int) := by rw [Int.emod_add_emod]
  rw [h4, Int.emod_def, Int.mul_comm] at h1
  omega
theorem ph_nat {g : C} (k : Nat) (hk : k < g.s.length) : ph g (k : Int) = k := by
  unfold ph; rw [Int.emod_eq_of_lt (by omega) (by omega)]; rfl
def cellsR (g : C) (t a b : Int) : List Int × Int := if legE g t a b 0 = 0 then (pls g.l.length (G g t a b).cell, 0) else ([], legE g t a b 0)
def freeR (g : C) (t a b p tick : Int) : Bool × Int :=
  if legE g t a b tick = 0 then (if 0 ≤ p ∧ p < (g.l.length : Int) then ((G g t a b).al (ph g tick) p.toNat, 0) else (false, 2)) else (false, legE g t a b tick)
def reachR (g : C) (t a b tick n : Int) : List Int × Int :=
  if legE g t a b tick = 0 then (if 0 ≤ n ∧ n ≤ 1024 then (pls g.l.length (Bf.R (G g t a b) (ph g tick) a.toNat n.toNat), 0) else ([], 2)) else ([], legE g t a b tick)
noncomputable def arrv (g : C) (t a b tick : Int) : Int := Bf.arr (G g t a b) (ph g tick) a.toNat
noncomputable def arrivalR (g : C) (t a b tick : Int) : Int × Int :=
  if legE g t a b tick = 0 then (if arrv g t a b tick < 0 then (0, 130) else (arrv g t a b tick, 0)) else (0, legE g t a b tick)
noncomputable def rts (g : C) (t a b tick : Int) : List Int := (Bf.rt (G g t a b) (arrv g t a b tick).toNat (ph g tick) a.toNat).map fun (p : Nat) => (p : Int)
noncomputable def routeR (g : C) (t a b tick : Int) : List Int × Int :=
  if legE g t a b tick = 0 then (if arrv g t a b tick < 0 then ([], 130) else (rts g t a b tick, 0)) else ([], legE g t a b tick)
noncomputable def nextR (g : C) (t a b tick : Int) : Int × Int :=
  if (routeR g t a b tick).2 = 0 then (if (routeR g t a b tick).1.length < 2 then (0, 6) else ((routeR g t a b tick).1.getD 1 0, 0)) else (0, (routeR g t a b tick).2)
noncomputable def tableR (g : C) (t a b : Int) : List Int × Int := if legE g t a b 0 = 0 then ((List.range g.s.length).map fun k => Bf.arr (G g t a b) k a.toNat, 0) else ([], legE g t a b 0)
/-- a list is a walk on a leg: its steps. -/
def stepsOk (x : Bf.G) (k0 : Nat) (l : List Int) (m : Nat) : Prop := ∀ i, i < m → 0 ≤ l.getD (i + 1) 0 ∧ (l.getD (i + 1) 0).toNat ∈ x.nr (l.getD i 0).toNat ∧ x.al ((k0 + i + 1) % x.K) (l.getD (i + 1) 0).toNat = true
def isWalk (g : C) (t a b tick : Int) (l : List Int) : Prop := l.length ≠ 0 ∧ l.getD 0 0 = a ∧ l.getD (l.length - 1) 0 = b ∧ stepsOk (G g t a b) (ph g tick) l (l.length - 1)
noncomputable def walkR (g : C) (t a b tick : Int) (l : List Int) : Bool × Int := open Classical in
  if legE g t a b tick = 0 then (if l.length ≤ 1025 then (decide (isWalk g t a b tick l), 0) else (false, 4)) else (false, legE g t a b tick)
def prs (u v : List Int) : List (Int × Int) := u.flatMap fun p => v.map fun q => (p, q)
def legs (m : T) : List (Int × Int) := prs m.h m.p ++ prs m.p m.d ++ prs m.d m.h
def legsR (g : C) (t : Int) : List (Int × Int) × Int := if asked g t 0 = 0 then (legs (team g t), 0) else ([], asked g t 0)
end Rt
end Go.Proofs.Ytflkbabhbnmajaa

/- Laws for the walks over a plan. -/
set_option linter.unusedSimpArgs false
set_option linter.unusedVariables false
namespace Go.Proofs.Ytflkbabhbnmajaa
namespace Rt
open Cf
def phk (K : Nat) (tick : Int) : Nat := (tick % (K : Int)).toNat
theorem phk_lt {K : Nat} (h : 1 ≤ K) (tick : Int) : phk K tick < K := by
  have h1 := Int.emod_nonneg tick (show (K : Int) ≠ 0 by omega)
  have h2 := Int.emod_lt_of_pos tick (show (0 : Int) < K by omega)
  unfold phk; omega
theorem phk_int {K : Nat} (h : 1 ≤ K) (tick : Int) : tick % (K : Int) = ((phk K tick : Nat) : Int) := by
  have h1 := Int.emod_nonneg tick (show (K : Int) ≠ 0 by omega)
  unfold phk; omega
theorem rng_all {p : Nat → Bool} {k : Nat} (h : ∀ j, j < k → p j = false) (e : p k = false) : ∀ j, j < k + 1 → p j = false := fun j hj => by
  rcases Nat.lt_succ_iff_lt_or_eq.1 hj with h' | rfl
  · exact h j h'
  · exact e
theorem pls_congr {n : Nat} {f g : Nat → Bool} (h : ∀ j, j < n → f j = g j) : pls n f = pls n g := by
  unfold pls; congr 1; apply List.filter_congr; intro x hx; exact h x (List.mem_range.1 hx)
theorem cell_from {g : C} {t a b : Int} (h : Leg g t a b) : (G g t a b).cell a.toNat = true := by
  show has g t a b ((a.toNat : Nat) : Int) = true
  rw [Int.toNat_of_nonneg h.ra.1]
  unfold has
  rw [decide_eq_true (rfl : a = a)]
  simp
theorem plan_all {x : Bf.G} {D : Bf.DD} (h : ∀ k p, k < x.K → p < x.n → x.cell p = true → Bf.Ar x k p (D k p)) : ∀ k p, k < x.K → p < x.n → x.cell p = true → D k p = Bf.arr x k p := fun k p h1 h2 h3 => (Bf.arr_of (h k p h1 h2 h3)).symm
theorem plan_at {g : C} {t a b : Int} (hL : Leg g t a b) {x : Bf.G} (hx : x = G g t a b) {D : Bf.DD} (h : ∀ k p, k < x.K → p < x.n → x.cell p = true → Bf.Ar x k p (D k p)) {k : Nat} (hk : k < x.K) : D k a.toNat = Bf.arr (G g t a b) k a.toNat := by
  subst hx
  exact plan_all h k a.toNat hk (by have := hL.ra; show a.toNat < g.l.length; omega) (cell_from hL)
theorem plan_arr {g : C} {t a b : Int} (hL : Leg g t a b) {x : Bf.G} (hx : x = G g t a b) {D : Bf.DD} (h : ∀ k p, k < x.K → p < x.n → x.cell p = true → Bf.Ar x k p (D k p)) {tick : Int} : D (phk x.K tick) a.toNat = arrv g t a b tick := by
  subst hx
  exact plan_at hL rfl h (phk_lt (per_of hL.c).1 tick)
def tbl (D : Bf.DD) (p k : Nat) : List Int := (List.range k).map fun i => D i p
theorem tbl_succ (D : Bf.DD) (p k : Nat) : tbl D p (k + 1) = tbl D p k ++ [D k p] := by unfold tbl; rw [List.range_succ, List.map_append]; rfl
theorem tbl_len (D : Bf.DD) (p k : Nat) : (tbl D p k).length = k := by simp [tbl]
theorem tbl_all {D D' : Bf.DD} {p k : Nat} (h : ∀ i, i < k → D i p = D' i p) : tbl D p k = tbl D' p k := by
  unfold tbl; apply List.map_congr_left; intro i hi; exact h i (List.mem_range.1 hi)
theorem arv_of {g : C} {t a b tick : Int} (h : legE g t a b tick = 0) : arrivalR g t a b tick = if arrv g t a b tick < 0 then (0, 130) else (arrv g t a b tick, 0) := if_pos h
theorem arv_err {g : C} {t a b tick : Int} (h : ¬ legE g t a b tick = 0) : arrivalR g t a b tick = (0, legE g t a b tick) := if_neg h
theorem phk_succ {K : Nat} (h : 1 ≤ K) (tick : Int) : phk K (tick + 1) = (phk K tick + 1) % K := by
  have h1 := phk_int h (tick + 1)
  have h2 := phk_int h tick
  have h3 : (tick + 1) % (K : Int) = (tick % (K : Int) + 1) % (K : Int) := by rw [Int.emod_add_emod]
  rw [h3, h2] at h1
  have h4 : (((phk K tick + 1) % K : Nat) : Int) = ((phk K tick : Nat) + 1 : Int) % (K : Int) := by rw [Int.natCast_emod]; rfl
  omega
theorem phk_add {K : Nat} (h : 1 ≤ K) (tick : Int) (m : Nat) : phk K (tick + (m : Int)) = (phk K tick + m) % K := by
  induction m with
  | zero => simp only [Int.natCast_zero, Int.add_zero, Nat.add_zero]; rw [Nat.mod_eq_of_lt (phk_lt h tick)]
  | succ m ih =>
    rw [show tick + ((m + 1 : Nat) : Int) = tick + (m : Int) + 1 by omega, phk_succ h, ih, Nat.mod_add_mod]
    rfl
/-- the places that can be reached, as they are found: from the first p places, and j neighbours of the next one. -/
def nxf (x : Bf.G) (k : Nat) (r : Nat → Bool) (p j q : Nat) : Bool := ((List.range p).any (fun p' => r p' && decide (q ∈ x.nr p')) || (r p && decide (q ∈ (x.nr p).take j))) && x.al k q
theorem nxf_zero (n : Nat) (x : Bf.G) (k : Nat) (r : Nat → Bool) : E.bls n (fun _ => false) = E.bls n (nxf x k r 0 0) := E.bls_congr fun q _ => by simp [nxf]
theorem nxf_step {n : Nat} {x : Bf.G} {k : Nat} {r : Nat → Bool} {p j : Nat} {V : Bool} (hj : j < (x.nr p).length) (hV : V = (nxf x k r p j ((x.nr p).getD j 0) || (r p && x.al k ((x.nr p).getD j 0)))) :
    E.bls n (E.up (nxf x k r p j) ((x.nr p).getD j 0) V) = E.bls n (nxf x k r p (j + 1)) := by
  refine E.bls_congr fun q _ => ?_
  have e : (x.nr p).getD j 0 = (x.nr p)[j] := by simp [List.getD, hj]
  have ht : (x.nr p).take (j + 1) = (x.nr p).take j ++ [(x.nr p)[j]] := by rw [List.take_add_one, List.getElem?_eq_getElem hj, Option.toList_some]
  by_cases hq : q = (x.nr p).getD j 0
  · subst hq
    rw [E.up_same, hV]
    have hm : decide ((x.nr p).getD j 0 ∈ (x.nr p).take (j + 1)) = true := decide_eq_true (by rw [ht, e]; exact List.mem_append_right _ (List.mem_singleton.2 rfl))
    unfold nxf
    rw [hm]
    generalize ((List.range p).any fun p' => r p' && decide ((x.nr p).getD j 0 ∈ x.nr p')) = X
    generalize decide ((x.nr p).getD j 0 ∈ (x.nr p).take j) = d
    generalize x.al k ((x.nr p).getD j 0) = a
    cases X <;> cases r p <;> cases a <;> cases d <;> rfl
  · rw [E.up_ne _ _ hq]
    unfold nxf
    have : decide (q ∈ (x.nr p).take (j + 1)) = decide (q ∈ (x.nr p).take j) := decide_eq_decide.2 (by rw [ht, ← e, List.mem_append, List.mem_singleton]; exact ⟨fun h => h.resolve_right hq, .inl⟩)
    rw [this]
theorem nxf_row {n : Nat} {x : Bf.G} {k : Nat} {r : Nat → Bool} {p j : Nat} (hj : (x.nr p).length ≤ j) : E.bls n (nxf x k r p j) = E.bls n (nxf x k r (p + 1) 0) := E.bls_congr fun q _ => by
  unfold nxf
  rw [List.take_of_length_le hj, List.range_succ, List.any_append]
  simp
theorem nxf_R {n : Nat} {x : Bf.G} {k0 a m k : Nat} (hn : x.n = n) (hk : k = (k0 + m + 1) % x.K) : E.bls n (nxf x k (Bf.R x k0 a m) n 0) = E.bls n (Bf.R x k0 a (m + 1)) := E.bls_congr fun q _ => by
  subst hn hk
  unfold nxf
  rw [List.take_zero]
  simp [Bf.R]
theorem R_zero {n : Nat} {x : Bf.G} {k0 a : Nat} : E.bls n (E.up (fun _ => false) a true) = E.bls n (Bf.R x k0 a 0) := E.bls_congr fun q _ => by
  unfold E.up Bf.R
  by_cases h : q = a <;> simp [h]
/-- a place among the first j neighbours. -/
def fnd (x : Bf.G) (p j : Nat) (z : Int) : Bool := decide (z ∈ (E.nn x p).take j)
theorem fnd_zero (x : Bf.G) (p : Nat) (z : Int) : fnd x p 0 z = false := by simp [fnd]
theorem fnd_step {x : Bf.G} {p j : Nat} {z : Int} {V : Bool} (hj : j < (x.nr p).length) (hV : V = (fnd x p j z || decide ((((x.nr p).getD j 0 : Nat) : Int) = z))) : V = fnd x p (j + 1) z := by
  subst hV
  unfold fnd
  have hj' : j < (E.nn x p).length := by simpa using hj
  have e : (E.nn x p)[j] = (((x.nr p).getD j 0 : Nat) : Int) := by rw [← E.nn_get, List.getD_eq_getElem?_getD, List.getElem?_eq_getElem hj', Option.getD_some]
  rw [List.take_add_one, List.getElem?_eq_getElem hj', Option.toList_some, e, ← Bool.decide_or]
  refine decide_eq_decide.2 ?_
  rw [List.mem_append, List.mem_singleton]
  exact ⟨fun h => h.imp_right Eq.symm, fun h => h.imp_right Eq.symm⟩
theorem fnd_cases {x : Bf.G} (ok : x.ok) {p j : Nat} {z : Int} (hp : p < x.n) (hj : (x.nr p).length ≤ j) : (fnd x p j z = true ∧ 0 ≤ z ∧ z < x.n ∧ z.toNat ∈ x.nr p) ∨ (fnd x p j z = false ∧ ¬ (0 ≤ z ∧ z.toNat ∈ x.nr p)) := by
  unfold fnd
  rw [List.take_of_length_le (by simpa using hj)]
  by_cases h : z ∈ E.nn x p
  · obtain ⟨q, h1, rfl⟩ := List.mem_map.1 h
    exact .inl ⟨decide_eq_true h, by omega, by have := ok.nrlt p q hp h1; omega, by simpa using h1⟩
  · refine .inr ⟨decide_eq_false h, fun h2 => h (List.mem_map.2 ⟨z.toNat, h2.2, by omega⟩)⟩
theorem steps_zero (x : Bf.G) (k0 : Nat) (l : List Int) : stepsOk x k0 l 0 := fun i hi => by omega
theorem steps_next {x : Bf.G} {k0 m : Nat} {l : List Int} (h : stepsOk x k0 l m) (h0 : 0 ≤ l.getD (m + 1) 0) (h1 : (l.getD (m + 1) 0).toNat ∈ x.nr (l.getD m 0).toNat) (h2 : x.al ((k0 + m + 1) % x.K) (l.getD (m + 1) 0).toNat = true) : stepsOk x k0 l (m + 1) := fun i hi => by
  rcases Nat.lt_succ_iff_lt_or_eq.1 hi with h' | rfl
  · exact h i h'
  · exact ⟨h0, h1, h2⟩
theorem walk_err {g : C} {t a b tick : Int} {l : List Int} (h : ¬ legE g t a b tick = 0) : walkR g t a b tick l = (false, legE g t a b tick) := if_neg h
theorem walk_many {g : C} {t a b tick : Int} {l : List Int} (h : legE g t a b tick = 0) (hl : ¬ l.length ≤ 1025) : walkR g t a b tick l = (false, 4) := (if_pos h).trans (if_neg hl)
theorem walk_no {g : C} {t a b tick : Int} {l : List Int} (h : legE g t a b tick = 0) (hl : l.length ≤ 1025) (hw : ¬ isWalk g t a b tick l) : walkR g t a b tick l = (false, 0) :=
  (if_pos h).trans ((if_pos hl).trans (Prod.ext (@decide_eq_false _ (_) hw) rfl))
theorem walk_yes {g : C} {t a b tick : Int} {l : List Int} (h : legE g t a b tick = 0) (hl : l.length ≤ 1025) (hw : isWalk g t a b tick l) : walkR g t a b tick l = (true, 0) :=
  (if_pos h).trans ((if_pos hl).trans (Prod.ext (@decide_eq_true _ (_) hw) rfl))
/-- the route, place by place. -/
structure RI (x : Bf.G) (N : Nat) (tick : Int) (a0 i p : Nat) (o : List Int) : Prop where
  hi : i ≤ N
  hp : p < x.n
  hc : x.cell p = true
  ha : Bf.arr x (phk x.K (tick + (i : Int))) p = ((N - i : Nat) : Int)
  ho : o ++ ((Bf.rt x (N - i) (phk x.K (tick + (i : Int))) p).tail.map fun (q : Nat) => (q : Int)) = (Bf.rt x N (phk x.K tick) a0).map fun (q : Nat) => (q : Int)
  hl : o.length = i + 1
theorem RI.start {x : Bf.G} {N : Nat} {tick : Int} {a0 : Nat} (hp : a0 < x.n) (hc : x.cell a0 = true) (ha : Bf.arr x (phk x.K tick) a0 = (N : Int)) : RI x N tick a0 0 a0 [(a0 : Int)] := by
  refine ⟨Nat.zero_le _, hp, hc, ?_, ?_, rfl⟩
  · simpa using ha
  · obtain ⟨r, hr⟩ := Bf.rt_head x N (phk x.K tick) a0
    simp only [Int.natCast_zero, Int.add_zero, Nat.sub_zero, hr]
    rfl
theorem RI.step {x : Bf.G} (ok : x.ok) (hK : 1 ≤ x.K) {N : Nat} {tick : Int} {a0 i p : Nat} {o : List Int} (h : RI x N tick a0 i p o) (hlt : i < N) :
    RI x N tick a0 (i + 1) (Bf.nx x (phk x.K (tick + (i : Int) + 1)) p ((N : Int) - (i : Int))) (o ++ [((Bf.nx x (phk x.K (tick + (i : Int) + 1)) p ((N : Int) - (i : Int)) : Nat) : Int)]) := by
  obtain ⟨m, hm⟩ : ∃ m, N - i = m + 1 := ⟨N - i - 1, by omega⟩
  have ha := h.ha
  rw [hm] at ha
  obtain ⟨h1, h2, h3⟩ := Bf.nx_ok ok (phk_lt hK (tick + (i : Int))) h.hp h.hc (m := m) (by rw [ha]; rfl)
  have e1 : ((N : Int) - (i : Int)) = (m : Int) + 1 := by omega
  have e2 := phk_succ hK (tick + (i : Int))
  have e3 : tick + ((i + 1 : Nat) : Int) = tick + (i : Int) + 1 := by omega
  have e4 : N - (i + 1) = m := by omega
  rw [e1, e2]
  refine ⟨hlt, ok.nrlt _ _ h.hp h1, ok.alc _ _ h2, ?_, ?_, by rw [List.length_append, h.hl]; rfl⟩
  · rw [e3, e2, e4]; exact h3
  · rw [e3, e2, e4]
    have ho := h.ho
    rw [hm] at ho
    rw [← ho]
    obtain ⟨r, hr⟩ := Bf.rt_head x m ((phk x.K (tick + (i : Int)) + 1) % x.K) (Bf.nx x ((phk x.K (tick + (i : Int)) + 1) % x.K) p ((m : Int) + 1))
    simp only [Bf.rt, List.tail_cons, hr, List.map_cons, List.append_assoc, List.cons_append, List.nil_append]
theorem RI.fin {x : Bf.G} {N : Nat} {tick : Int} {a0 p : Nat} {o : List Int} (h : RI x N tick a0 N p o) : o = (Bf.rt x N (phk x.K tick) a0).map fun (q : Nat) => (q : Int) := by
  have := h.ho
  rw [Nat.sub_self] at this
  simpa [Bf.rt] using this
theorem route_err {g : C} {t a b tick : Int} (h : ¬ (arrivalR g t a b tick).2 = 0) : routeR g t a b tick = ([], (arrivalR g t a b tick).2) := by
  unfold arrivalR at *
  unfold routeR
  by_cases h1 : legE g t a b tick = 0
  · rw [if_pos h1] at h
    rw [if_pos h1, if_pos h1]
    by_cases h2 : arrv g t a b tick < 0
    · rw [if_pos h2, if_pos h2]
    · rw [if_neg h2] at h; exact absurd rfl h
  · rw [if_neg h1, if_neg h1]
theorem route_ok {g : C} {t a b tick : Int} (h : (arrivalR g t a b tick).2 = 0) : legE g t a b tick = 0 ∧ (arrivalR g t a b tick).1 = arrv g t a b tick ∧ 0 ≤ arrv g t a b tick ∧ routeR g t a b tick = (rts g t a b tick, 0) := by
  unfold arrivalR at *
  unfold routeR
  by_cases h1 : legE g t a b tick = 0
  · rw [if_pos h1] at h ⊢
    by_cases h2 : arrv g t a b tick < 0
    · rw [if_pos h2] at h; exact absurd h (by decide)
    · rw [if_neg h2, if_pos h1, if_neg h2]; exact ⟨h1, rfl, by omega, rfl⟩
  · rw [if_neg h1] at h; exact absurd h h1
theorem arr_le {g : C} {t a b tick : Int} (hL : Leg g t a b) : arrv g t a b tick ≤ 1024 := by
  have hk := ph_lt hL.c tick
  have hp : a.toNat < (G g t a b).n := by have := hL.ra; show a.toNat < g.l.length; omega
  have h1 := len_le hL.c
  have h2 := (per_of hL.c).2
  rcases Bf.arr_ar (G_ok hL) (k := ph g tick) (p := a.toNat) hk hp (cell_from hL) with ⟨h, _⟩ | ⟨_, h, _⟩
  · unfold arrv; omega
  · have h3 : g.l.length * g.s.length ≤ 64 * 16 := Nat.mul_le_mul h1 h2
    have h4 : (((G g t a b).n : Int)) * (((G g t a b).K : Nat) : Int) = ((g.l.length * g.s.length : Nat) : Int) := by rw [Int.natCast_mul]; rfl
    unfold arrv
    omega
end Rt
namespace E
open Go Go.RowKit
section
variable {P : Program} {n : Fr} {w0 : World} {F : Nat → Prop} {K : Kt} {l : Env} {H : List HP} {o : Oper}
theorem PV.add_u64 {t t' : TypeId} {x y : Operand} {p q : Int} (ho : o.op = .binOp .add t x y t') (hx : ev l x = some (.int .u64 p)) (hy : ev l y = some (.int .u64 q)) (hr : 0 ≤ p + q ∧ p + q < 18446744073709551616) : PV P n w0 F l H o (.int .u64 (p + q)) := by
  have h := PV.add (P := P) (n := n) (w0 := w0) (F := F) (H := H) ho hx hy
  rwa [show IntKind.u64.wrap (p + q) = p + q by rw [IntKind.wrap_u64]; omega] at h
/-- a slice without its first element. -/
def tl (A : Option Addr) (c : Nat) : Option Addr := if c = 1 then A else A.map (·.add (1 * 1))
theorem PV.tail {t Et bytes m c : Nat} {x y : Operand} {z : Value} {A : Option Addr} (hT : P.underlying t = some (.slice Et)) (hI : In P Et z 1 bytes) (ho : o.op = .slice t x (some y) none none) (hx : ev l x = some (.slice A m c)) (hy : ev l y = some (.int .i64 1)) (hm : 1 ≤ m) :
    PV P n w0 F l H o (.slice (tl A c) (m - 1) (c - 1)) := fun a w ha _ => by
  obtain ⟨inf, hinf, hz0, hz1, hz2⟩ := hI.parts
  have hel : P.elem t = Et := by simp [Program.elem, hT]
  have hr := run_slice_l (P := P) w t A m c (by rw [hel]; exact hT) .i64 1 (by omega) (by omega)
  rw [hel] at hr
  have hsa := run_sliceAt_slice (P := P) w t (.slice A m c) (some (.int .i64 1)) none none (by rw [hel]; exact hT)
  simp [execOp, ho, ha.ev hx, ha.ev hy, hsa, hr, sizeOf, typeInfo, hinf, hz1, Result.andThen, sliced, tl]
theorem Rd.tail {w : World} {G : Nat → Prop} {A : Option Addr} {c : Nat} {l : List Int} (h : Rd w G A (ints l)) (hc : l.length ≤ c) : Rd w G (tl A c) (ints l.tail) := fun hx => by
  have hl : 1 < l.length := by simp at hx; omega
  obtain ⟨ad, h1, h2, h3⟩ := h (by simp; omega)
  subst h1
  unfold tl
  rw [if_neg (by omega)]
  refine ⟨ad.add (1 * 1), rfl, by rw [Addr.add_block]; exact h2, fun j u hu => ?_⟩
  rw [Addr.add_add']
  refine h3 (1 * 1 + j) u ?_
  rw [← hu]
  cases l with
  | nil => simp at hl
  | cons q r => simp [ints, Nat.add_comm]
theorem tail_get (l : List Int) (i : Nat) : l.tail.getD i 0 = l.getD (i + 1) 0 := by cases l <;> simp
end
end E
end Go.Proofs.Ytflkbabhbnmajaa

/- Closed facts on the program (printed by gen.py). -/
namespace Go.Proofs.Ytflkbabhbnmajaa
open Go Go.RowKit
set_option linter.unusedSimpArgs false
set_option linter.unusedVariables false
theorem is30 : E.Is Try.prog 30 2 := ⟨fun _ => by kernel_rfl, fun _ => by kernel_rfl⟩

theorem nm58 : E.Nm Try.prog 58 := ⟨Try.f58, Try.func58, rfl, by kernel_rfl⟩

theorem nm59 : E.Nm Try.prog 59 := ⟨Try.f59, Try.func59, rfl, by kernel_rfl⟩

theorem nm60 : E.Nm Try.prog 60 := ⟨Try.f60, Try.func60, rfl, by kernel_rfl⟩
end Go.Proofs.Ytflkbabhbnmajaa
