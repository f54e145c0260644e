/- Counting in a map: how many keys it has, plainly; the model of a config's validity. -/
import Derived.Test.YteibcphdbkgcgaaMp
namespace Go.Proofs.Yteibcphdbkgcgaa
set_option linter.unusedVariables false
set_option linter.unusedSimpArgs false
namespace Cf
open Go
/-! ### Keys of a map of numbers -/
theorem perm_ne {p : Int} : ∀ {ks : List Int}, ks.Nodup → p ∈ ks → (p :: ks.filter fun q => decide (q ≠ p)).Perm ks := by
  intro ks
  induction ks with
  | nil => intro _ h; cases h
  | cons a r ih =>
    intro hn hm
    rw [List.nodup_cons] at hn
    by_cases h : a = p
    · subst h
      have e1 : (r.filter fun q => decide (q ≠ a)) = r := List.filter_eq_self.2 (fun q hq => decide_eq_true (fun (e : q = a) => hn.1 (e ▸ hq)))
      rw [List.filter_cons_of_neg (by simp), e1]
    · have hmr : p ∈ r := by
        rcases List.mem_cons.1 hm with e | e
        · exact absurd e.symm h
        · exact e
      rw [List.filter_cons_of_pos (by simpa using h)]
      exact (List.Perm.swap _ _ _).trans ((ih hn.2 hmr).cons a)
theorem insert_perm {H : Type} (x : Lit × DataW H) : ∀ D : List (Lit × DataW H), (DataW.insert x D).Perm (x :: D) := by
  intro D
  induction D with
  | nil => exact List.Perm.refl _
  | cons y r ih =>
    unfold DataW.insert
    split
    · exact List.Perm.refl _
    · exact (ih.cons y).trans (List.Perm.swap _ _ _)

def Dk (l : List Int) (k : Nat) (D : List (Lit × DataW Unit)) : Prop :=
  ∃ ks : List Int, (D.map (·.1)).Perm (ks.map (Lit.int .i64)) ∧ ks.Nodup ∧ (∀ p, p ∈ ks ↔ p ∈ l.take k) ∧ ks.length ≤ k ∧ (ks.length = k ↔ (l.take k).Nodup)
theorem Dk_start (l : List Int) : Dk l 0 [] := ⟨[], List.Perm.refl _, List.nodup_nil, by simp, by simp, by simp⟩
theorem Dk_step {l : List Int} {k : Nat} {D : List (Lit × DataW Unit)} {d : DataW Unit} (h : Dk l k D) (hk : k < l.length) : Dk l (k + 1) (ChangeMaps.putKey (.int .i64 (l.getD k 0)) d D) := by
  obtain ⟨ks, h1, h2, h3, h4, h5⟩ := h
  have ht : l.take (k + 1) = l.take k ++ [l.getD k 0] := by rw [List.take_add_one, List.getElem?_eq_getElem hk]; simp [List.getD, hk]
  generalize l.getD k 0 = p at *
  have hp : ((ChangeMaps.putKey (.int .i64 p) d D).map (·.1)).Perm ((p :: ks.filter fun q => decide (q ≠ p)).map (Lit.int .i64)) := by
    unfold ChangeMaps.putKey
    refine ((insert_perm _ _).map _).trans ?_
    rw [List.map_cons, List.map_cons]
    refine List.Perm.cons _ ?_
    have e1 : (D.filter (ChangeMaps.notKey (.int .i64 p))).map (·.1) = (D.map (·.1)).filter fun q => !q.sameKey (.int .i64 p) := by
      rw [List.filter_map]; rfl
    have e2 : ((ks.map (Lit.int .i64)).filter fun q => !q.sameKey (.int .i64 p)) = (ks.filter fun q => decide (q ≠ p)).map (Lit.int .i64) := by
      rw [List.filter_map]
      congr 1
      apply List.filter_congr
      intro q _
      simp [Lit.sameKey]
    rw [e1, ← e2]
    exact h1.filter _
  have hlen : (l.take k).length = k := by rw [List.length_take]; omega
  by_cases hm : p ∈ ks
  · refine ⟨ks, hp.trans ((perm_ne h2 hm).map _), h2, fun q => ?_, by omega, ?_⟩
    · rw [ht, List.mem_append, List.mem_singleton, ← h3 q]
      constructor
      · exact .inl
      · rintro (h | rfl)
        · exact h
        · exact hm
    · constructor
      · intro e; omega
      · intro hn
        rw [ht, List.nodup_append] at hn
        exact absurd rfl (hn.2.2 p ((h3 p).1 hm) p (by simp))
  · have e : (ks.filter fun q => decide (q ≠ p)) = ks := List.filter_eq_self.2 fun q hq => decide_eq_true fun e => hm (e ▸ hq)
    rw [e] at hp
    refine ⟨p :: ks, hp, List.nodup_cons.2 ⟨hm, h2⟩, fun q => ?_, by simpa using h4, ?_⟩
    · rw [ht, List.mem_append, List.mem_singleton, List.mem_cons, ← h3 q]
      exact or_comm
    · rw [List.length_cons, ht, List.nodup_append]
      constructor
      · intro e
        refine ⟨h5.1 (by omega), by simp, fun a ha b hb => ?_⟩
        simp at hb
        subst hb
        exact fun e => hm ((h3 _).2 (e ▸ ha))
      · intro hn
        rw [h5.2 hn.1]
theorem Dk_end {l : List Int} {D : List (Lit × DataW Unit)} {k : Nat} (h : Dk l k D) (hk : k = l.length) : decide ((D.length : Int) = l.length) = decide l.Nodup := by
  subst hk
  obtain ⟨ks, h1, h2, h3, h4, h5⟩ := h
  have := h1.length_eq
  simp only [List.length_map] at this
  rw [List.take_length] at h5
  refine decide_eq_decide.2 ?_
  rw [this, ← h5]
  omega

/-! ### Positions in lists of numbers -/
def idx (q : Int → Bool) (l : List Int) : Int := match l.findIdx? q with | some i => (i : Int) | none => -1
theorem idx_some {q : Int → Bool} {l : List Int} {k : Nat} (hk : k < l.length) (h1 : ∀ j, j < k → q (l.getD j 0) = false) (h2 : q (l.getD k 0) = true) : idx q l = k := by
  unfold idx
  have : l.findIdx? q = some k := by
    rw [List.findIdx?_eq_some_iff_getElem]
    refine ⟨hk, by simpa [List.getD, hk] using h2, fun j hj => ?_⟩
    have := h1 j hj
    simpa [List.getD, show j < l.length by omega] using this
  rw [this]
theorem idx_none {q : Int → Bool} {l : List Int} (h1 : ∀ j, j < l.length → q (l.getD j 0) = false) : idx q l = -1 := by
  unfold idx
  have : l.findIdx? q = none := by
    rw [List.findIdx?_eq_none_iff]
    intro x hx
    obtain ⟨i, hi, rfl⟩ := List.getElem_of_mem hx
    have := h1 i hi
    simpa [List.getD, hi] using this
  rw [this]
theorem idx_any (q : Int → Bool) (l : List Int) : decide (0 ≤ idx q l) = l.any q := by
  unfold idx
  cases h : l.findIdx? q with
  | none =>
    rw [List.findIdx?_eq_none_iff] at h
    have : l.any q = false := List.any_eq_false.2 fun x hx => by rw [h x hx]; simp
    rw [this]; rfl
  | some i =>
    rw [List.findIdx?_eq_some_iff_getElem] at h
    obtain ⟨hi, hq, _⟩ := h
    have : l.any q = true := List.any_eq_true.2 ⟨_, List.getElem_mem hi, hq⟩
    rw [this]
    exact decide_eq_true (Int.natCast_nonneg i)
theorem idx_mem (x : Int) (l : List Int) : decide (0 ≤ idx (fun y => decide (x = y)) l) = decide (x ∈ l) := by
  rw [idx_any]
  by_cases h : x ∈ l
  · rw [decide_eq_true h]; exact List.any_eq_true.2 ⟨x, h, by simp⟩
  · rw [decide_eq_false h]; exact List.any_eq_false.2 fun y hy => fun hh => h ((of_decide_eq_true hh).symm ▸ hy)

/-! ### Teams -/
def absent (t : T) : Bool := decide (t = T.z)
theorem absent_eq (t : T) : (decide ((t.h.length : Int) + t.p.length + t.d.length = 0) && decide (t.n1 = 0) && decide (t.n2 = 0) && decide (t.n3 = 0) && decide (t.n4 = 0) && decide (t.n5 = 0)) = absent t := by
  unfold absent
  rw [← Bool.decide_and, ← Bool.decide_and, ← Bool.decide_and, ← Bool.decide_and, ← Bool.decide_and]
  refine decide_eq_decide.2 ?_
  rw [T.ext']
  simp only [T.z]
  constructor
  · rintro ⟨⟨⟨⟨⟨h, h1⟩, h2⟩, h3⟩, h4⟩, h5⟩
    exact ⟨List.eq_nil_of_length_eq_zero (by omega), List.eq_nil_of_length_eq_zero (by omega), List.eq_nil_of_length_eq_zero (by omega), h1, h2, h3, h4, h5⟩
  · rintro ⟨e1, e2, e3, h1, h2, h3, h4, h5⟩
    rw [e1, e2, e3]
    exact ⟨⟨⟨⟨⟨by simp, h1⟩, h2⟩, h3⟩, h4⟩, h5⟩
def spots (t : T) : List Int := t.h ++ t.p ++ t.d
def btw (n m : Int) : Bool := decide (1 ≤ n) && decide (n ≤ m)
def lims (t : T) : List (Int × Int) := [(t.h.length, 3), (t.p.length, 3), (t.d.length, 3), (t.n1, 8), (t.n2, 8), (t.n3, 8), (t.n4, 16), (t.n5, 64)]
def numbers (t : T) : Bool := (lims t).all fun x => btw x.1 x.2
def ownAt (l : List UInt8) (t p : Int) : Bool := decide (0 ≤ p) && decide (p < l.length) && Fl.own t (l.getD p.toNat 0)
def validTeam (l : List UInt8) (t : Int) (m : T) : Bool := numbers m && (spots m).all (ownAt l t) && decide (spots m).Nodup
def checkTeam (a b : Int) (l : List UInt8) (t : Int) (m : T) : Int := if Fl.validF a b l then (if Fl.inB t 3 then (if absent m || validTeam l t m then 0 else 70) else 2) else 50

theorem numbers_len {m : T} (h : numbers m = true) : (1 ≤ m.h.length ∧ m.h.length ≤ 3) ∧ (1 ≤ m.p.length ∧ m.p.length ≤ 3) ∧ (1 ≤ m.d.length ∧ m.d.length ≤ 3) := by
  unfold numbers lims btw at h
  simp only [List.all_cons, Bool.and_eq_true, decide_eq_true_eq] at h
  omega
theorem spots_len (m : T) : (spots m).length = m.h.length + m.p.length + m.d.length := by unfold spots; simp only [List.length_append]
theorem spots_i64 {m : T} (h : m.fit) : i64s (spots m) := fun n hn => by
  unfold spots at hn
  rcases List.mem_append.1 hn with hn | hn
  · rcases List.mem_append.1 hn with hn | hn
    · exact h.hs n hn
    · exact h.ps n hn
  · exact h.ds n hn
theorem priv_mem {a b : Int} {l : List UInt8} {t : Int} (hv : Fl.validF a b l = true) (ht : Fl.inB t 3 = true) (p : Int) : decide (p ∈ (Fl.priv a b l t).1) = ownAt l t p := by
  have h3 := Fl.inB_iff.1 ht
  unfold Fl.priv ownAt
  rw [if_pos hv, if_pos ht]
  by_cases hp : 0 ≤ p ∧ p < l.length
  · rw [decide_eq_true hp.1, decide_eq_true hp.2, Fl.own_iff h3 (Fl.okc_at hv (by omega))]
    simp only [Bool.true_and]
    refine decide_eq_decide.2 ?_
    rw [Fl.places_mem]
    constructor
    · rintro ⟨q, h1, h2, rfl⟩
      simpa using h2
    · intro h
      exact ⟨p.toNat, by omega, by simpa using h, by omega⟩
  · have : (decide (0 ≤ p) && decide (p < l.length)) = false := by
      rw [← Bool.decide_and]; exact decide_eq_false hp
    rw [this, Bool.false_and]
    refine decide_eq_false fun h => hp ?_
    obtain ⟨q, h1, _, rfl⟩ := (Fl.places_mem (q := fun c => decide (Fl.ownerC c = t)) (l := l) (k := l.length)).1 h
    omega
theorem foreign_any {a b : Int} {l : List UInt8} {t : Int} (hv : Fl.validF a b l = true) (ht : Fl.inB t 3 = true) (s : List Int) : (s.any fun p => !decide (p ∈ (Fl.priv a b l t).1)) = !s.all (ownAt l t) := by
  rw [List.not_all_eq_any_not]
  congr 1
  funext p
  rw [priv_mem hv ht p]
theorem checkTeam_bad {a b : Int} {l : List UInt8} {t : Int} {m : T} (h : ¬ (Fl.priv a b l t).2 = 0) : checkTeam a b l t m = (Fl.priv a b l t).2 := by
  unfold checkTeam Fl.priv at *
  split
  · rename_i hv
    rw [if_pos hv] at h
    split
    · rename_i ht; rw [if_pos ht] at h; exact absurd rfl h
    · rfl
  · rfl
theorem priv_ok {a b : Int} {l : List UInt8} {t : Int} (h : (Fl.priv a b l t).2 = 0) : Fl.validF a b l = true ∧ Fl.inB t 3 = true := by
  unfold Fl.priv at h
  split at h
  · rename_i hv
    split at h
    · rename_i ht; exact ⟨hv, ht⟩
    · cases h
  · cases h
theorem checkTeam_if {a b : Int} {l : List UInt8} {t : Int} {m : T} (hv : Fl.validF a b l = true) (ht : Fl.inB t 3 = true) : checkTeam a b l t m = if absent m || validTeam l t m then 0 else 70 := by
  unfold checkTeam; rw [if_pos hv, if_pos ht]

section
variable {a b : Int} {l : List UInt8} {t : Int} {m : T}
theorem ct_own (hv : Fl.validF a b l = true) (ht : Fl.inB t 3 = true) (ha : absent m = false) (h : ((spots m).any fun p => !decide (p ∈ (Fl.priv a b l t).1)) = true) : checkTeam a b l t m = 70 := by
  rw [foreign_any hv ht, Bool.not_eq_true'] at h
  rw [checkTeam_if hv ht, ha, validTeam, h]
  simp
theorem ct_dup (hv : Fl.validF a b l = true) (ht : Fl.inB t 3 = true) (ha : absent m = false) (h : ¬ (spots m).Nodup) : checkTeam a b l t m = 70 := by
  rw [checkTeam_if hv ht, ha, validTeam, decide_eq_false h]
  simp
theorem ct_yes (hv : Fl.validF a b l = true) (ht : Fl.inB t 3 = true) (hn : numbers m = true) (h : ((spots m).any fun p => !decide (p ∈ (Fl.priv a b l t).1)) = false) (hd : (spots m).Nodup) : checkTeam a b l t m = 0 := by
  rw [foreign_any hv ht, Bool.not_eq_false'] at h
  rw [checkTeam_if hv ht, validTeam, hn, h, decide_eq_true hd]
  simp
end

/-! ### Configs -/
def present (ts : List T) (t : Int) : Bool := decide (0 ≤ t) && decide (t < ts.length) && !absent (ts.getD t.toNat T.z)
def belongs (ts : List T) (v : UInt8) : Bool := decide ((v.toNat : Int) = 0) || decide ((v.toNat : Int) = 255) || present ts ((v.toNat : Int) - 1)
def tenants (ts : List T) (k : Nat) : List Int := ((List.range k).filter fun (t : Nat) => present ts (t : Int)).map fun (t : Nat) => (t : Int)
theorem tenants_yes {ts : List T} {k : Nat} (h : present ts (k : Int) = true) : tenants ts (k + 1) = tenants ts k ++ [(k : Int)] := by
  unfold tenants; rw [List.range_succ, List.filter_append, List.map_append]; simp only [List.filter_cons, h, if_true, List.filter_nil, List.map_cons, List.map_nil]
theorem tenants_no {ts : List T} {k : Nat} (h : present ts (k : Int) = false) : tenants ts (k + 1) = tenants ts k := by
  unfold tenants; rw [List.range_succ, List.filter_append, List.map_append]; simp only [List.filter_cons, h, Bool.false_eq_true, if_false, List.filter_nil, List.map_nil, List.append_nil]
theorem tenants_len (ts : List T) (k : Nat) : (tenants ts k).length ≤ k := by
  unfold tenants; rw [List.length_map]; have := List.length_filter_le (fun p => present ts ((p : Nat) : Int)) (List.range k); simpa using this
def teamsAt (g : C) (k : Nat) : Prop := ∀ j, j < k → absent (g.ts.getD j T.z) = true ∨ validTeam g.l j (g.ts.getD j T.z) = true
def teamOk (g : C) (j : Nat) : Bool := absent (g.ts.getD j T.z) || validTeam g.l (j : Int) (g.ts.getD j T.z)
def teamsOk (g : C) : Bool := decide (1 ≤ g.ts.length) && decide (g.ts.length ≤ 3) && (List.range g.ts.length).all (teamOk g) && g.l.all (belongs g.ts) && g.s.all (belongs g.ts) && (List.range g.ts.length).any fun j => !absent (g.ts.getD j T.z)
def check (g : C) : Int := if Fl.validF g.a g.b g.l then (if Fl.validS g.s then (if teamsOk g then (if g.st ≤ 4611686018427387904 then 0 else 2) else 70) else 60) else 50
theorem present_at {ts : List T} {k : Nat} (h : k < ts.length) : present ts (k : Int) = !absent (ts.getD k T.z) := by
  unfold present
  rw [decide_eq_true (by omega), decide_eq_true (by omega), Int.toNat_natCast, Bool.true_and, Bool.true_and]
theorem any_tenants (ts : List T) : ((List.range ts.length).any fun j => !absent (ts.getD j T.z)) = !decide (((tenants ts ts.length).length : Int) = 0) := by
  have e : ((List.range ts.length).any fun j => !absent (ts.getD j T.z)) = (List.range ts.length).any fun j => present ts ((j : Nat) : Int) := by
    rw [Bool.eq_iff_iff, List.any_eq_true, List.any_eq_true]
    constructor
    · rintro ⟨j, hj, h⟩; exact ⟨j, hj, by rw [present_at (List.mem_range.1 hj)]; exact h⟩
    · rintro ⟨j, hj, h⟩; exact ⟨j, hj, by rw [present_at (List.mem_range.1 hj)] at h; exact h⟩
  rw [e]
  unfold tenants
  rw [List.length_map]
  by_cases h : (List.range ts.length).any (fun j => present ts ((j : Nat) : Int)) = true
  · rw [h]
    obtain ⟨j, hj, hp⟩ := List.any_eq_true.1 h
    have : j ∈ (List.range ts.length).filter fun (t : Nat) => present ts (t : Int) := List.mem_filter.2 ⟨hj, hp⟩
    have := List.length_pos_of_mem this
    symm
    rw [Bool.not_eq_true', decide_eq_false_iff_not]
    omega
  · have h' : (List.range ts.length).any (fun j => present ts ((j : Nat) : Int)) = false := by simpa using h
    rw [h']
    have : ((List.range ts.length).filter fun (t : Nat) => present ts (t : Int)) = [] := List.filter_eq_nil_iff.2 fun j hj => by
      have := List.any_eq_false.1 h' j hj
      exact this
    rw [this]; rfl

theorem _root_.Go.Proofs.Yteibcphdbkgcgaa.E.Cfg.present_eq (g : E.Cfg) (t : Int) : present g.q.ts t = (decide (0 ≤ t) && decide (t < g.ts.length) && !absent (g.ts.getD t.toNat E.Tm.z).q) := by
  unfold present
  rw [E.Cfg.ts_getD, E.Cfg.ts_len]
theorem all_bad {α : Type} {q : α → Bool} {l : List α} {z : α} {k : Nat} (hk : k < l.length) (h : q (l.getD k z) = false) : l.all q = false := by
  refine List.all_eq_false.2 ⟨l.getD k z, ?_, by rw [h]; simp⟩
  rw [List.getD_eq_getElem?_getD, List.getElem?_eq_getElem hk, Option.getD_some]; exact List.getElem_mem hk
theorem all_good {α : Type} {q : α → Bool} {l : List α} {z : α} (h : ∀ j, j < l.length → q (l.getD j z) = true) : l.all q = true := by
  refine List.all_eq_true.2 fun x hx => ?_
  obtain ⟨i, hi, rfl⟩ := List.getElem_of_mem hx
  have := h i hi
  rwa [List.getD_eq_getElem?_getD, List.getElem?_eq_getElem hi, Option.getD_some] at this
theorem next_all {p : Nat → Prop} {k : Nat} (h : ∀ j, j < k → p j) (e : p k) : ∀ j, j < k + 1 → p j := fun j hj => by
  rcases Nat.lt_succ_iff_lt_or_eq.1 hj with h' | rfl
  · exact h j h'
  · exact e
theorem nodup_take {s : List Int} {k : Nat} (h : (s.take k).Nodup) (hk : k < s.length) (hn : ∀ j, j < k → ¬ s.getD j 0 = s.getD k 0) : (s.take (k + 1)).Nodup := by
  rw [List.take_add_one, List.getElem?_eq_getElem hk]
  rw [List.nodup_append]
  refine ⟨h, by simp, fun a ha b hb => ?_⟩
  simp at hb
  subst hb
  intro e
  obtain ⟨i, hi, rfl⟩ := List.getElem_of_mem ha
  rw [List.length_take] at hi
  refine hn i (by omega) ?_
  rw [List.getElem_take] at e
  simp [List.getD, hk, show i < s.length by omega, e]
theorem nodup_bad {s : List Int} {i k : Nat} (hi : i < k) (hk : k < s.length) (e : s.getD i 0 = s.getD k 0) : ¬ s.Nodup := fun h => by
  have := List.pairwise_iff_getElem.1 h i k (by omega) hk hi
  apply this
  simpa [List.getD, hk, show i < s.length by omega] using e
theorem ownAt_i {l : List UInt8} {t p : Int} (h1 : ¬ p < 0) (h2 : ¬ (l.length : Int) ≤ p) (h3 : Fl.own t (l.getD p.toNat 0) = true) : ownAt l t p = true := by
  unfold ownAt; rw [decide_eq_true (by omega), decide_eq_true (by omega), h3]; rfl
theorem ownAt_lo {l : List UInt8} {t p : Int} (h1 : p < 0) : ownAt l t p = false := by
  unfold ownAt; rw [decide_eq_false (by omega)]; rfl
theorem ownAt_hi {l : List UInt8} {t p : Int} (h1 : (l.length : Int) ≤ p) : ownAt l t p = false := by
  unfold ownAt; rw [decide_eq_false (show ¬ p < (l.length : Int) by omega), Bool.and_false]; rfl
theorem ownAt_no {l : List UInt8} {t p : Int} (h3 : Fl.own t (l.getD p.toNat 0) = false) : ownAt l t p = false := by
  unfold ownAt; rw [h3, Bool.and_false]

/-! ### The order of a config's errors -/
theorem check_f {g : C} (h : ¬ Fl.checkF g.a g.b g.l = 0) : check g = Fl.checkF g.a g.b g.l := by
  unfold check Fl.checkF at *; split <;> simp_all
theorem check_s {g : C} (hv : Fl.validF g.a g.b g.l = true) (h : ¬ Fl.checkS g.s = 0) : check g = Fl.checkS g.s := by
  unfold check Fl.checkS at *; rw [if_pos hv]; split <;> simp_all
theorem check_t {g : C} (hv : Fl.validF g.a g.b g.l = true) (hs : Fl.validS g.s = true) (h : teamsOk g = false) : check g = 70 := by
  unfold check; rw [if_pos hv, if_pos hs, if_neg (by rw [h]; simp)]
theorem check_st {g : C} (hv : Fl.validF g.a g.b g.l = true) (hs : Fl.validS g.s = true) (h : teamsOk g = true) (h2 : 4611686018427387904 < g.st) : check g = 2 := by
  unfold check; rw [if_pos hv, if_pos hs, if_pos h, if_neg (by omega)]
theorem check_ok {g : C} (hv : Fl.validF g.a g.b g.l = true) (hs : Fl.validS g.s = true) (h : teamsOk g = true) (h2 : g.st ≤ 4611686018427387904) : check g = 0 := by
  unfold check; rw [if_pos hv, if_pos hs, if_pos h, if_pos h2]
theorem validS_of {s : List UInt8} (h : Fl.checkS s = 0) : Fl.validS s = true := by
  unfold Fl.checkS at h; split at h
  · assumption
  · cases h
theorem teams_many {g : C} (h : 3 < (g.ts.length : Int)) : teamsOk g = false := by
  unfold teamsOk; rw [decide_eq_false (show ¬ g.ts.length ≤ 3 by omega)]; simp
theorem teams_few {g : C} (h : (g.ts.length : Int) < 1) : teamsOk g = false := by
  unfold teamsOk; rw [decide_eq_false (show ¬ 1 ≤ g.ts.length by omega)]; simp
theorem teams_none {g : C} (h : ((tenants g.ts g.ts.length).length : Int) = 0) : teamsOk g = false := by
  unfold teamsOk; rw [any_tenants, decide_eq_true h]; simp
theorem range_all {p : Nat → Bool} {n : Nat} (h : ∀ j, j < n → p j = true) : (List.range n).all p = true := List.all_eq_true.2 fun j hj => h j (List.mem_range.1 hj)
theorem teams_at {g : C} {k : Nat} (hk : k < g.ts.length) (h : teamOk g k = false) : teamsOk g = false := by
  unfold teamsOk
  have : (List.range g.ts.length).all (teamOk g) = false := List.all_eq_false.2 ⟨k, List.mem_range.2 hk, by rw [h]; simp⟩
  rw [this]; simp
theorem teams_cells {g : C} (h : g.l.all (belongs g.ts) = false) : teamsOk g = false := by unfold teamsOk; rw [h]; simp
theorem teams_slices {g : C} (h : g.s.all (belongs g.ts) = false) : teamsOk g = false := by unfold teamsOk; rw [h]; simp
theorem teams_good {g : C} {sm : Bool} (h1 : ¬ (g.ts.length : Int) < 1) (h2 : ¬ 3 < (g.ts.length : Int)) (h3 : ∀ j, j < g.ts.length → teamOk g j = true) (h4 : g.l.all (belongs g.ts) = true) (h5 : g.s.all (belongs g.ts) = true)
    (h6 : sm = (List.range g.ts.length).any fun j => !absent (g.ts.getD j T.z)) : teamsOk g = sm := by
  unfold teamsOk
  rw [decide_eq_true (by omega), decide_eq_true (by omega), range_all h3, h4, h5, ← h6]; rfl
theorem any_succ {p : Nat → Bool} {k : Nat} : (List.range (k + 1)).any p = ((List.range k).any p || p k) := by
  rw [List.range_succ, List.any_append]; simp
theorem teamOk_of {g : C} {k : Nat} (hv : Fl.validF g.a g.b g.l = true) (hk : k < 3) (h : checkTeam g.a g.b g.l (k : Int) (g.ts.getD k T.z) = 0) : teamOk g k = true := by
  rw [checkTeam_if hv (Fl.inB_iff.2 (by omega))] at h
  unfold teamOk
  by_cases hh : (absent (g.ts.getD k T.z) || validTeam g.l (k : Int) (g.ts.getD k T.z)) = true
  · exact hh
  · rw [if_neg hh] at h; cases h
theorem teamOk_not {g : C} {k : Nat} (hv : Fl.validF g.a g.b g.l = true) (hk : k < 3) (h : ¬ checkTeam g.a g.b g.l (k : Int) (g.ts.getD k T.z) = 0) : teamOk g k = false ∧ checkTeam g.a g.b g.l (k : Int) (g.ts.getD k T.z) = 70 := by
  rw [checkTeam_if hv (Fl.inB_iff.2 (by omega))] at *
  unfold teamOk
  by_cases hh : (absent (g.ts.getD k T.z) || validTeam g.l (k : Int) (g.ts.getD k T.z)) = true
  · rw [if_pos hh] at h; exact absurd rfl h
  · rw [if_neg hh]; exact ⟨by simpa using hh, rfl⟩
theorem any_strange (ts : List T) (l : List UInt8) : (l.any fun x => !belongs ts x) = !l.all (belongs ts) := by rw [List.not_all_eq_any_not]
theorem any_bad {ts : List T} {l : List UInt8} (h : (l.any fun x => !belongs ts x) = true) : l.all (belongs ts) = false := by
  rw [any_strange, Bool.not_eq_true'] at h; exact h
theorem any_good {ts : List T} {l : List UInt8} (h : (l.any fun x => !belongs ts x) = false) : l.all (belongs ts) = true := by
  rw [any_strange, Bool.not_eq_false'] at h; exact h
theorem some_one {g : C} (h : ¬ ((tenants g.ts g.ts.length).length : Int) = 0) : true = (List.range g.ts.length).any fun j => !absent (g.ts.getD j T.z) := by
  rw [any_tenants, decide_eq_false h]; rfl
theorem some_len {g : C} (h : ¬ ((tenants g.ts g.ts.length).length : Int) = 0) : ¬ (g.ts.length : Int) < 1 := fun e => h (by
  have := tenants_len g.ts g.ts.length
  omega)
def presence (g : C) (t : Int) : Bool × Int := if check g = 0 then (if t < 0 ∨ (g.ts.length : Int) ≤ t then (false, 2) else (present g.ts t, 0)) else (false, check g)
def tenantsR (g : C) : List Int × Int := if check g = 0 then (tenants g.ts g.ts.length, 0) else ([], check g)
theorem tenantsR_len (g : C) : (tenantsR g).1.length ≤ g.ts.length := by
  unfold tenantsR
  split
  · exact tenants_len _ _
  · exact Nat.zero_le _
end Cf
end Go.Proofs.Yteibcphdbkgcgaa
