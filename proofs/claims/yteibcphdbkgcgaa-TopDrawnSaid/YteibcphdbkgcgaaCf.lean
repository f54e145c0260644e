/- Teams and configs, plainly: no program in sight. -/
import Derived.Test.YteibcphdbkgcgaaFlP
namespace Go.Proofs.Yteibcphdbkgcgaa
/-! ### The plain things -/
namespace Cf
structure T where
  h : List Int
  p : List Int
  d : List Int
  n1 : Int
  n2 : Int
  n3 : Int
  n4 : Int
  n5 : Int
  deriving DecidableEq
structure C where
  a : Int
  b : Int
  l : List UInt8
  s : List UInt8
  ts : List T
  st : Int
  deriving DecidableEq
def T.z : T := ⟨[], [], [], 0, 0, 0, 0, 0⟩
/-- numbers and lengths that the machine can hold. -/
def i64s (l : List Int) : Prop := ∀ n ∈ l, -9223372036854775808 ≤ n ∧ n ≤ 9223372036854775807
def i64 (n : Int) : Prop := -9223372036854775808 ≤ n ∧ n ≤ 9223372036854775807
structure T.fit (t : T) : Prop where
  h : t.h.length * 8 ≤ 140737488351232
  p : t.p.length * 8 ≤ 140737488351232
  d : t.d.length * 8 ≤ 140737488351232
  hs : i64s t.h
  ps : i64s t.p
  ds : i64s t.d
  n1 : i64 t.n1
  n2 : i64 t.n2
  n3 : i64 t.n3
  n4 : i64 t.n4
  n5 : i64 t.n5
structure C.fit (g : C) : Prop where
  a : i64 g.a
  b : i64 g.b
  l : g.l.length ≤ 140737488351232
  s : g.s.length ≤ 140737488351232
  t : g.ts.length * 112 ≤ 140737488351232
  m : ∀ t ∈ g.ts, t.fit
  st : 0 ≤ g.st ∧ g.st < 18446744073709551616
theorem T.ext' {t u : T} : t = u ↔ t.h = u.h ∧ t.p = u.p ∧ t.d = u.d ∧ t.n1 = u.n1 ∧ t.n2 = u.n2 ∧ t.n3 = u.n3 ∧ t.n4 = u.n4 ∧ t.n5 = u.n5 := by
  cases t; cases u; simp
theorem upto {α : Type} {l l2 : List α} {d : α} {k : Nat} (h : ∀ j, j < k → l.getD j d = l2.getD j d) (e : l.getD k d = l2.getD k d) : ∀ j, j < k + 1 → l.getD j d = l2.getD j d := fun j hj => by
  rcases Nat.lt_succ_iff_lt_or_eq.1 hj with h' | rfl
  · exact h j h'
  · exact e
theorem u8_eq {x y : UInt8} (h : (x.toNat : Int) = (y.toNat : Int)) : x = y := UInt8.toNat_inj.1 (by omega)
theorem map_ne {α β : Type} [DecidableEq β] {f : α → β} {l l2 : List α} {z : α} {k : Nat} (h1 : k < l.length) (h2 : k < l2.length) (h : ¬ f (l.getD k z) = f (l2.getD k z)) : decide (l.map f = l2.map f) = false :=
  decide_eq_false fun e => h (by
    have := congrArg (·[k]?) e
    simp only [List.getElem?_map, List.getElem?_eq_getElem h1, List.getElem?_eq_getElem h2, Option.map_some, Option.some.injEq] at this
    simpa [List.getD, h1, h2] using this)
theorem map_len {α β : Type} [DecidableEq β] {f : α → β} {l l2 : List α} (h : ¬ (l.length : Int) = l2.length) : decide (l.map f = l2.map f) = false :=
  decide_eq_false fun e => h (by have := congrArg List.length e; simp only [List.length_map] at this; omega)
theorem map_eq {α β : Type} [DecidableEq β] {f : α → β} {l l2 : List α} {z : α} (hl : l.length = l2.length) (h : ∀ j, j < l.length → f (l.getD j z) = f (l2.getD j z)) : decide (l.map f = l2.map f) = true := decide_eq_true (by
  apply List.ext_getElem (by simpa using hl)
  intro i h1 h2
  simp only [List.length_map] at h1 h2
  have := h i h1
  simpa [List.getD, h1, h2] using this)
theorem upto' {α β : Type} {f : α → β} {l l2 : List α} {z : α} {k : Nat} (h : ∀ j, j < k → f (l.getD j z) = f (l2.getD j z)) (e : f (l.getD k z) = f (l2.getD k z)) : ∀ j, j < k + 1 → f (l.getD j z) = f (l2.getD j z) := fun j hj => by
  rcases Nat.lt_succ_iff_lt_or_eq.1 hj with h' | rfl
  · exact h j h'
  · exact e
theorem map_take {α β : Type} {f : α → β} {l : List α} {l2 : List α} {z : α} {k : Nat} (h : l2.map f = (l.take k).map f) (hk : k < l.length) {x : α} (hx : f x = f (l.getD k z)) : (l2 ++ [x]).map f = (l.take (k + 1)).map f := by
  rw [List.map_append, h, List.map_cons, List.map_nil, hx, List.take_add_one, List.map_append, List.getElem?_eq_getElem hk]
  simp [List.getD, hk]
end Cf

end Go.Proofs.Yteibcphdbkgcgaa
