/- Opening teams and configs in a law's row. No program in sight. -/
import Derived.Test.YteibcphdbkgcgaaFrame
import Derived.Test.YteibcphdbkgcgaaTm
import Derived.Deep.Slices
namespace Go.Proofs.Yteibcphdbkgcgaa
namespace E
open Go Go.RowKit Go.WideShapes Go.ChangeShapes Go.ChangeAt

section
variable {H : Type} {enc : TypeId × Value → H} {P : Program} {w : World} {fuel : Nat} {cs : List Value} {x : DataW H × List MemPlace}

/-- what a team's cells are. -/
def TmAt (w : World) (cs : List Value) : Prop := ∃ m : Tm, cs = m.cells ∧ m.rd w (Old w) ∧ m.q.fit

theorem mem_weightsAll {P : Program} {e : TypeId} {d : DataW H} {n : Nat} : ∀ {ds : List (DataW H)}, d ∈ ds → n ∈ d.weights P e → n ∈ DataW.weightsAll P e ds := by
  intro ds
  induction ds with
  | nil => intro h; cases h
  | cons a r ih =>
    intro h hn
    simp only [DataW.weightsAll, List.mem_append]
    rcases List.mem_cons.1 h with rfl | h
    · exact .inl hn
    · exact .inr (ih h hn)

theorem choose_list {α : Type} [Inhabited α] {n : Nat} {p : Nat → α → Prop} (h : ∀ i, i < n → ∃ a, p i a) : ∃ l : List α, l.length = n ∧ ∀ i, i < n → p i (l.getD i default) := by
  induction n with
  | zero => exact ⟨[], rfl, fun i hi => by omega⟩
  | succ n ih =>
    obtain ⟨l, h1, h2⟩ := ih fun i hi => h i (by omega)
    obtain ⟨a, ha⟩ := h n (by omega)
    refine ⟨l ++ [a], by simp [h1], fun i hi => ?_⟩
    by_cases hin : i < n
    · have := h2 i hin
      rw [List.getD_eq_getElem?_getD, List.getElem?_append_left (by omega), ← List.getD_eq_getElem?_getD]
      exact this
    · have : i = n := by omega
      subst this
      rw [List.getD_eq_getElem?_getD, List.getElem?_append_right (by omega), h1, Nat.sub_self]
      exact ha

instance : Inhabited Tm := ⟨Tm.z⟩

theorem tms_inv {ts : List Tm} {i : Nat} {v : Value} (h : (tms ts)[i]? = some v) : i / 8 < ts.length ∧ (ts.getD (i / 8) Tm.z).cells[i % 8]? = some v := by
  have hlt : i < ts.length * 8 := by
    rcases Nat.lt_or_ge i (ts.length * 8) with h' | h'
    · exact h'
    · rw [List.getElem?_eq_none (by simpa using h')] at h; cases h
  have hk : i / 8 < ts.length := by omega
  refine ⟨hk, ?_⟩
  have hj : i % 8 < (ts.getD (i / 8) Tm.z).cells.length := by simp [Tm.cells]; omega
  have h2 := tms_get hk (List.getElem?_eq_getElem hj)
  rw [show i / 8 * 8 + i % 8 = i by omega, h] at h2
  rw [List.getElem?_eq_getElem hj, h2]

theorem rc_tms {t e : TypeId} (ht : P.underlying t = some (.slice e)) (hc : P.cellsOf e = 8) (hby : P.bytesOf e = 112)
    (hE : ∀ {fuel : Nat} {cs : List Value} {x : DataW H × List MemPlace}, DataW.trod enc P w 0 (fun _ => true) true fuel e cs = some x → (x.1.weights P e).all (· ≤ reachBytes) = true → TmAt w cs)
    (h : DataW.trod enc P w 0 (fun _ => true) true fuel t cs = some x) (hw : (x.1.weights P t).all (· ≤ reachBytes) = true) :
    ∃ (A : Option Addr) (c : Nat) (ts : List Tm), cs = [.slice A ts.length c] ∧ Rd w (Old w) A (tms ts) ∧ (∀ m ∈ ts, m.rd w (Old w)) ∧ (∀ m ∈ ts, m.q.fit) ∧ ts.length * 112 ≤ 140737488351232 := by
  rcases Deep.open_slice ht h with ⟨rfl, _⟩ | ⟨a, len, cap, m, n, D, Pl, rfl, _, hl, _, hm, rfl, hx⟩
  · exact ⟨none, 0, [], rfl, Rd.nil, (by intro m hm; cases hm), (by intro m hm; cases hm), by simp⟩
  · simp only [if_true] at hm
    subst hm
    have hlen : (len + (m - len)) * 112 ≤ reachBytes := by
      have := List.all_eq_true.1 hw ((((List.range len).map D).length + ((List.range (m - len)).map fun j => D (len + j)).length) * P.bytesOf e) (by simp [DataW.weights, ht])
      rw [hby] at this
      simpa using this
    have hel : ∀ i, i < len → ∃ q : Tm, (∀ j v, q.cells[j]? = some v → w.cell? ((a.add (i * 8)).add j) = some v) ∧ q.rd w (Old w) ∧ q.q.fit := by
      intro i hi
      obtain ⟨cs', h1, h2⟩ := hx i (by omega)
      rw [hc] at h1
      have hwt : ((D i).weights P e).all (· ≤ reachBytes) = true := List.all_eq_true.2 fun k hk => by
        refine List.all_eq_true.1 hw k ?_
        simp only [DataW.weights, ht, List.mem_cons, List.mem_append]
        exact .inr (.inl (mem_weightsAll (List.mem_map.2 ⟨i, List.mem_range.2 hi, rfl⟩) hk))
      obtain ⟨q, rfl, h3, h4⟩ := hE h2 hwt
      obtain ⟨_, hl8, hcell⟩ := World.cells?_some h1
      refine ⟨q, fun j v hv => ?_, h3, h4⟩
      have hj : j < 8 := by
        rcases Nat.lt_or_ge j 8 with h | h
        · exact h
        · rw [List.getElem?_eq_none (by simp [Tm.cells]; omega)] at hv; cases hv
      rw [hcell j hj]
      exact hv
    obtain ⟨ts, ht1, ht2⟩ := choose_list hel
    have hd : ∀ i, ts.getD i default = ts.getD i Tm.z := fun _ => rfl
    refine ⟨some a, m, ts, by rw [ht1], rd_of_cells fun i v hv => ?_, fun q hq => ?_, fun q hq => ?_, by rw [ht1]; unfold reachBytes at hlen; omega⟩
    · obtain ⟨g1, g2⟩ := tms_inv hv
      have := (ht2 (i / 8) (by omega)).1 (i % 8) v g2
      rwa [Deep.add_add, show i / 8 * 8 + i % 8 = i by omega] at this
    · obtain ⟨i, hi, rfl⟩ := List.getElem_of_mem hq
      have := (ht2 i (by omega)).2.1
      rwa [List.getD_eq_getElem?_getD, List.getElem?_eq_getElem hi, Option.getD_some] at this
    · obtain ⟨i, hi, rfl⟩ := List.getElem_of_mem hq
      have := (ht2 i (by omega)).2.2
      rwa [List.getD_eq_getElem?_getD, List.getElem?_eq_getElem hi, Option.getD_some] at this
end
theorem slice_cap {P : Program} {w : World} {r : Reach} {b0 : Nat} {t e : TypeId} {A : Option Addr} {m c : Nat} (ht : P.underlying t = some (.slice e)) (hval : Value.okWide P w r b0 t (.slice A m c)) : m ≤ c := by
  simp only [Value.okWide, ht, Cell.okWide] at hval
  cases A with
  | none => cases m <;> simp_all [Cell.ok]
  | some a => simp only [Cell.ok, ht] at hval; exact hval.1
end E
end Go.Proofs.Yteibcphdbkgcgaa
