/- A program logic over the kit's 'wp': frames as lists of known slots, memory as a list of separate chunks. No program in sight. -/
import Derived.WalkKit
import Derived.WalkLawsBesides
import Derived.Deep.Quiet
import Derived.OrdersHeld
namespace Go.Proofs.Yteibcphdbkgcgaa
namespace E
open Go Go.RowKit

/-! ### Frames -/
abbrev Env := List (Nat × Value)

def lk : Env → Nat → Option Value
  | [], _ => none
  | (k, v) :: l, t => bif Nat.beq k t then some v else lk l t

def ev (l : Env) : Operand → Option Value
  | .tmp t => lk l t
  | .const v => some v
  | .global g => some (.pointer (some ⟨g, 0, none⟩))
  | .func f => some (.func (.func f) #[] #[])

def evs (l : Env) : List Operand → Option (List Value)
  | [] => some []
  | x :: r => match ev l x, evs l r with
    | some v, some vs => some (v :: vs)
    | _, _ => none

structure Ag (n : Nat) (l : Env) (a : Act) : Prop where
  size : a.tmps.size = n
  defers : a.defers = []
  get : ∀ t v, lk l t = some v → a.tmps[t]? = some v

theorem Ag.ev {n : Nat} {l : Env} {a : Act} (h : Ag n l a) {x : Operand} {v : Value} (hv : ev l x = some v) : a.eval x = v := by
  cases x with
  | tmp t =>
    have := h.get t v hv
    simp only [Act.eval, Array.getD_eq_getD_getElem?, this, Option.getD_some]
  | const u => simp only [E.ev, Option.some.injEq] at hv; exact hv
  | global g => simp only [E.ev, Option.some.injEq] at hv; exact hv
  | func f => simp only [E.ev, Option.some.injEq] at hv; exact hv

theorem Ag.evs {n : Nat} {l : Env} {a : Act} (h : Ag n l a) : ∀ {xs : List Operand} {vs : List Value}, evs l xs = some vs → xs.map a.eval = vs := by
  intro xs
  induction xs with
  | nil => intro vs hv; simp only [E.evs, Option.some.injEq] at hv; subst hv; rfl
  | cons x r ih =>
    intro vs hv
    unfold E.evs at hv
    split at hv
    · rename_i v vs' h1 h2
      simp only [Option.some.injEq] at hv
      subst hv
      simp only [List.map_cons, h.ev h1, ih h2]
    · cases hv

theorem Ag.put {n : Nat} {l : Env} {a : Act} (h : Ag n l a) {d : Nat} (hd : Nat.blt d n = true) (v : Value) : Ag n ((d, v) :: l) (a.put (some d) v) := by
  have hd' : d < n := Nat.le_of_ble_eq_true hd
  refine ⟨by simp [Act.put, h.size], by simp [Act.put, h.defers], fun t u hu => ?_⟩
  simp only [Act.put, Array.getElem?_setIfInBounds]
  simp only [lk] at hu
  by_cases hdt : d = t
  · subst hdt
    simp only [Nat.beq_refl, cond_true, Option.some.injEq] at hu
    subst hu
    simp [h.size, hd']
  · have : Nat.beq d t = false := by
      cases hb : Nat.beq d t with
      | true => exact absurd (Nat.eq_of_beq_eq_true hb) hdt
      | false => rfl
    simp only [this, cond_false] at hu
    rw [if_neg hdt]
    exact h.get t u hu

theorem Ag.put_none {n : Nat} {l : Env} {a : Act} (h : Ag n l a) (v : Value) : Ag n l (a.put none v) := h

/-- every entry of the second list is read off the first. -/
def Cov (l : Env) : Env → Prop
  | [] => True
  | (t, v) :: r => lk l t = some v ∧ Cov l r

theorem Cov.lk {l : Env} : ∀ {l' : Env}, Cov l l' → ∀ t v, lk l' t = some v → lk l t = some v := by
  intro l'
  induction l' with
  | nil => intro _ t v h; cases h
  | cons p r ih =>
    obtain ⟨k, u⟩ := p
    intro hc t v h
    simp only [E.lk] at h
    cases hb : Nat.beq k t with
    | true =>
      rw [hb] at h
      simp only [cond_true, Option.some.injEq] at h
      subst h
      rw [← Nat.eq_of_beq_eq_true hb]
      exact hc.1
    | false =>
      rw [hb] at h
      exact ih hc.2 t v h

theorem Ag.cov {n : Nat} {l l' : Env} {a : Act} (h : Ag n l a) (hc : Cov l l') : Ag n l' a := ⟨h.size, h.defers, fun t v hv => h.get t v (hc.lk t v hv)⟩

/-- the sublist of some slots. -/
def pick (l : Env) : List Nat → Option Env
  | [] => some []
  | t :: r => match lk l t, pick l r with
    | some v, some e => some ((t, v) :: e)
    | _, _ => none

theorem pick_cov {l : Env} : ∀ {ts : List Nat} {e : Env}, pick l ts = some e → Cov l e := by
  intro ts
  induction ts with
  | nil => intro e h; simp only [pick, Option.some.injEq] at h; subst h; trivial
  | cons t r ih =>
    intro e h
    unfold pick at h
    split at h
    · rename_i v e' h1 h2
      simp only [Option.some.injEq] at h
      subst h
      exact ⟨h1, ih h2⟩
    · cases h

/-! ### Guards -/
def gd (ops : Array Oper) (l : Env) : Option (Nat × Bool) → Option Bool
  | none => some true
  | some (j, want) => match ops[j]? with
    | some o => match o.dst with
      | some s => match lk l s with
        | some (.bool b) => some (b == want)
        | some (.tuple _) => some false
        | _ => none
      | none => none
    | none => none

theorem Ag.wanted {n : Nat} {l : Env} {a : Act} (h : Ag n l a) {ops : Array Oper} {o : Oper} {b : Bool} (hg : gd ops l o.guard = some b) :
    Region.wanted o (yielded ops a.tmps) = b := by
  unfold Region.wanted
  cases ho : o.guard with
  | none => rw [ho] at hg; simp only [gd, Option.some.injEq] at hg; simp [hg]
  | some p =>
    obtain ⟨j, want⟩ := p
    rw [ho] at hg
    simp only [gd] at hg
    split at hg
    · rename_i o' ho'
      split at hg
      · rename_i s hs
        split at hg
        · rename_i c hc
          simp only [Option.some.injEq] at hg
          have := h.get s _ hc
          simp only [yielded, ho', hs, Option.bind_some, this]
          subst hg
          cases c <;> cases want <;> rfl
        · rename_i c hc
          simp only [Option.some.injEq] at hg
          have := h.get s _ hc
          simp only [yielded, ho', hs, Option.bind_some, this]
          subst hg
          rfl
        · cases hg
      · cases hg
    · cases hg

/-! ### Memory: separate chunks -/
structure HP where
  sem : (Nat → Prop) → World → Prop
  loc : ∀ (S : Nat → Prop) (w w' : World), (∀ k, S k → w'.heap[k]? = w.heap[k]?) → sem S w → sem S w'

def Chunks (w : World) : (Nat → Prop) → List HP → Prop
  | _, [] => True
  | U, p :: r => ∃ S : Nat → Prop, p.sem S w ∧ (∀ k, S k → k < w.heap.size ∧ ¬ U k) ∧ Chunks w (fun k => U k ∨ S k) r

theorem Chunks.congr {w : World} {H : List HP} : ∀ {U V : Nat → Prop}, (∀ k, U k ↔ V k) → Chunks w U H → Chunks w V H := by
  induction H with
  | nil => intro _ _ _ _; trivial
  | cons p r ih =>
    intro U V h ⟨S, h1, h2, h3⟩
    exact ⟨S, h1, fun k hk => ⟨(h2 k hk).1, fun hv => (h2 k hk).2 ((h k).2 hv)⟩, ih (fun k => by rw [h k]) h3⟩

theorem Chunks.mono {w : World} {H : List HP} : ∀ {U V : Nat → Prop}, (∀ k, V k → U k) → Chunks w U H → Chunks w V H := by
  induction H with
  | nil => intro _ _ _ _; trivial
  | cons p r ih =>
    intro U V h ⟨S, h1, h2, h3⟩
    exact ⟨S, h1, fun k hk => ⟨(h2 k hk).1, fun hv => (h2 k hk).2 (h k hv)⟩, ih (fun k hk => hk.elim (fun hv => .inl (h k hv)) .inr) h3⟩

/-- what lies outside U stays: so do the chunks. -/
theorem Chunks.keep {w w' : World} {H : List HP} (hs : w.heap.size ≤ w'.heap.size) : ∀ {U : Nat → Prop}, (∀ k, ¬ U k → k < w.heap.size → w'.heap[k]? = w.heap[k]?) → Chunks w U H → Chunks w' U H := by
  induction H with
  | nil => intro _ _ _; trivial
  | cons p r ih =>
    intro U h ⟨S, h1, h2, h3⟩
    exact ⟨S, p.loc S w w' (fun k hk => h k (h2 k hk).2 (h2 k hk).1) h1, fun k hk => ⟨Nat.lt_of_lt_of_le (h2 k hk).1 hs, (h2 k hk).2⟩,
      ih (fun k hk hlt => h k (fun hu => hk (.inl hu)) hlt) h3⟩

theorem Chunks.swap {w : World} {p q : HP} {r : List HP} {U : Nat → Prop} : Chunks w U (p :: q :: r) → Chunks w U (q :: p :: r) := by
  intro ⟨S, h1, h2, T, h3, h4, h5⟩
  refine ⟨T, h3, fun k hk => ⟨(h4 k hk).1, fun hu => (h4 k hk).2 (.inl hu)⟩, S, h1, fun k hk => ⟨(h2 k hk).1, fun hu => ?_⟩, ?_⟩
  · rcases hu with hu | hu
    · exact (h2 k hk).2 hu
    · exact (h4 k hu).2 (.inr hk)
  · exact h5.congr fun k => by constructor <;> intro h <;> rcases h with (h | h) | h <;> simp [h]

theorem Chunks.perm {w : World} {H H' : List HP} (hp : H.Perm H') : ∀ {U : Nat → Prop}, Chunks w U H → Chunks w U H' := by
  induction hp with
  | nil => intro _ h; exact h
  | cons x _ ih => intro U ⟨S, h1, h2, h3⟩; exact ⟨S, h1, h2, ih h3⟩
  | swap x y l => intro U h; exact h.swap
  | trans _ _ ih1 ih2 => intro U h; exact ih2 (ih1 h)

/-- chunk i out of the list. -/
def sel : List HP → Nat → Option (HP × List HP)
  | [], _ => none
  | p :: r, 0 => some (p, r)
  | p :: r, i + 1 => match sel r i with
    | some (q, s) => some (q, p :: s)
    | none => none

theorem sel_perm : ∀ {H : List HP} {i : Nat} {q : HP} {s : List HP}, sel H i = some (q, s) → H.Perm (q :: s) := by
  intro H
  induction H with
  | nil => intro i q s h; cases h
  | cons p r ih =>
    intro i q s h
    cases i with
    | zero => simp only [sel, Option.some.injEq, Prod.mk.injEq] at h; obtain ⟨rfl, rfl⟩ := h; exact List.Perm.refl _
    | succ i =>
      unfold sel at h
      split at h
      · rename_i q' s' hs
        simp only [Option.some.injEq, Prod.mk.injEq] at h
        obtain ⟨rfl, rfl⟩ := h
        exact (List.Perm.cons p (ih hs)).trans (List.Perm.swap _ _ _)
      · cases h

/-- some chunks, in this order. -/
def sels : List HP → List Nat → Option (List HP)
  | _, [] => some []
  | H, i :: is => match sel H i with
    | some (q, s) => match sels s is with
      | some r => some (q :: r)
      | none => none
    | none => none

theorem sels_chunks {w : World} : ∀ {is : List Nat} {H H' : List HP} {U : Nat → Prop}, sels H is = some H' → Chunks w U H → Chunks w U H' := by
  intro is
  induction is with
  | nil => intro H H' U h _; simp only [sels, Option.some.injEq] at h; subst h; trivial
  | cons i is ih =>
    intro H H' U h hc
    unfold sels at h
    split at h
    · rename_i q s hs
      split at h
      · rename_i r hr
        simp only [Option.some.injEq] at h
        subst h
        obtain ⟨S, h1, h2, h3⟩ := hc.perm (sel_perm hs)
        exact ⟨S, h1, h2, ih hr h3⟩
      · cases h
    · cases h

theorem Chunks.append_left {w : World} {H H' : List HP} : ∀ {U : Nat → Prop}, Chunks w U (H ++ H') → Chunks w U H := by
  induction H with
  | nil => intro _ _; trivial
  | cons p r ih => intro U ⟨S, h1, h2, h3⟩; exact ⟨S, h1, h2, ih h3⟩

structure HA (w0 : World) (F : Nat → Prop) (H : List HP) (w : World) : Prop where
  os : w.os = w0.os
  tape : w.tape = w0.tape
  output : w.output = w0.output
  size : w0.heap.size ≤ w.heap.size
  flt : ∀ k, F k → k < w0.heap.size
  kept : ∀ k, F k → w.heap[k]? = w0.heap[k]?
  chunks : Chunks w F H

theorem HA.perm {w0 w : World} {F : Nat → Prop} {H H' : List HP} (h : HA w0 F H w) (hp : H.Perm H') : HA w0 F H' w := { h with chunks := h.chunks.perm hp }
theorem HA.drop {w0 w : World} {F : Nat → Prop} {p : HP} {H : List HP} (h : HA w0 F (p :: H) w) : HA w0 F H w :=
  { h with chunks := by obtain ⟨S, _, _, h3⟩ := h.chunks; exact h3.mono fun k hk => .inl hk }
theorem HA.drew {w0 w : World} {F : Nat → Prop} {H : List HP} (h : HA w0 F H w) : HA w0 F H w.drew :=
  ⟨h.os, h.tape, h.output, h.size, h.flt, h.kept, h.chunks.keep (w := w) (w' := w.drew) (Nat.le_refl _) fun _ _ _ => rfl⟩

/-- the chunks' blocks lie in G. -/
def ChunksB (w : World) (G : Nat → Prop) : (Nat → Prop) → List HP → Prop
  | _, [] => True
  | U, p :: r => ∃ S : Nat → Prop, p.sem S w ∧ (∀ k, S k → k < w.heap.size ∧ ¬ U k ∧ G k) ∧ ChunksB w G (fun k => U k ∨ S k) r

theorem ChunksB.of {w w' : World} {G : Nat → Prop} (hs : w.heap.size ≤ w'.heap.size) (hk : ∀ k, G k → w'.heap[k]? = w.heap[k]?) {H : List HP} :
    ∀ {U V : Nat → Prop}, (∀ k, k < w.heap.size → ¬ U k → G k) → (∀ k, V k → U k) → Chunks w U H → ChunksB w' G V H := by
  induction H with
  | nil => intro _ _ _ _ _; trivial
  | cons p r ih =>
    intro U V hG hV ⟨S, h1, h2, h3⟩
    refine ⟨S, p.loc S w w' (fun k hk' => hk k (hG k (h2 k hk').1 (h2 k hk').2)) h1, fun k hk' => ⟨Nat.lt_of_lt_of_le (h2 k hk').1 hs, fun hv => (h2 k hk').2 (hV k hv), hG k (h2 k hk').1 (h2 k hk').2⟩, ?_⟩
    exact ih (fun k hlt hn => hG k hlt (fun hu => hn (.inl hu))) (fun k hk' => hk'.elim (fun hv => .inl (hV k hv)) .inr) h3

theorem ChunksB.more {w : World} {G : Nat → Prop} {H : List HP} : ∀ {U V : Nat → Prop}, (∀ k, V k → G k → U k) → ChunksB w G U H → ChunksB w G V H := by
  induction H with
  | nil => intro _ _ _ _; trivial
  | cons p r ih =>
    intro U V hV ⟨S, h1, h2, h3⟩
    refine ⟨S, h1, fun k hk => ⟨(h2 k hk).1, fun hv => (h2 k hk).2.1 (hV k hv (h2 k hk).2.2), (h2 k hk).2.2⟩, ih ?_ h3⟩
    intro k hk hg
    exact hk.elim (fun hv => .inl (hV k hv hg)) .inr

theorem ChunksB.chunks {w : World} {G : Nat → Prop} {H : List HP} : ∀ {U : Nat → Prop}, ChunksB w G U H → Chunks w U H := by
  induction H with
  | nil => intro _ _; trivial
  | cons p r ih =>
    intro U ⟨S, h1, h2, h3⟩
    exact ⟨S, h1, fun k hk => ⟨(h2 k hk).1, (h2 k hk).2.1⟩, ih h3⟩

theorem Chunks.app {w : World} {G : Nat → Prop} {B : List HP} : ∀ {A : List HP} {U : Nat → Prop}, Chunks w (fun k => U k ∨ G k) A → ChunksB w G U B → Chunks w U (A ++ B) := by
  intro A
  induction A with
  | nil => intro U _ hB; exact hB.chunks
  | cons p r ih =>
    intro U ⟨S, h1, h2, h3⟩ hB
    refine ⟨S, h1, fun k hk => ⟨(h2 k hk).1, fun hu => (h2 k hk).2 (.inl hu)⟩, ih (U := fun k => U k ∨ S k) (h3.congr fun k => ?_) (hB.more ?_)⟩
    · constructor <;> intro h <;> rcases h with (h | h) | h <;> simp [h]
    · intro k hk hg
      rcases hk with hu | hs
      · exact hu
      · exact absurd (.inr hg) (h2 k hs).2

/-- a step that turns the blocks of the first chunk alone, and makes new ones. -/
theorem HA.write {w0 w w' : World} {F : Nat → Prop} {p : HP} {Hn H : List HP} (h : HA w0 F (p :: H) w)
    (hst : ∀ S, p.sem S w → (∀ k, S k → k < w.heap.size ∧ ¬ F k) → w'.os = w.os ∧ w'.tape = w.tape ∧ w'.output = w.output ∧ w.heap.size ≤ w'.heap.size ∧
      (∀ k, k < w.heap.size → ¬ S k → w'.heap[k]? = w.heap[k]?) ∧ Chunks w' (fun k => k < w.heap.size ∧ ¬ S k) Hn) : HA w0 F (Hn ++ H) w' := by
  obtain ⟨S, h1, h2, h3⟩ := h.chunks
  obtain ⟨hos, htape, hout, hsz, hk, hn⟩ := hst S h1 h2
  have hF : ∀ k, F k → k < w.heap.size ∧ ¬ S k := fun k hf => ⟨Nat.lt_of_lt_of_le (h.flt k hf) h.size, fun hs => (h2 k hs).2 hf⟩
  refine ⟨hos.trans h.os, htape.trans h.tape, hout.trans h.output, Nat.le_trans h.size hsz, h.flt, fun k hf => (hk k (hF k hf).1 (hF k hf).2).trans (h.kept k hf), ?_⟩
  refine Chunks.app (G := fun k => k < w.heap.size ∧ ¬ S k) ?_ ?_
  · exact hn.congr fun k => ⟨.inr, fun hk' => hk'.elim (hF k) id⟩
  · exact ChunksB.of (w := w) hsz (fun k hk' => hk k hk'.1 hk'.2) (U := fun k => F k ∨ S k) (fun k hlt hn => ⟨hlt, fun hs => hn (.inr hs)⟩) (fun k hf => .inl hf) h3

def HP.none : HP := ⟨fun S _ => ∀ k, ¬ S k, fun _ _ _ _ h => h⟩

theorem HA.none {w0 w : World} {F : Nat → Prop} {H : List HP} (h : HA w0 F H w) : HA w0 F (HP.none :: H) w :=
  { h with chunks := ⟨fun _ => False, fun _ hk => hk, fun _ hk => hk.elim, h.chunks.congr fun k => by simp⟩ }

/-- a step that makes new blocks alone. -/
theorem HA.make {w0 w w' : World} {F : Nat → Prop} {Hn H : List HP} (h : HA w0 F H w)
    (hos : w'.os = w.os) (htape : w'.tape = w.tape) (hout : w'.output = w.output) (hsz : w.heap.size ≤ w'.heap.size)
    (hk : ∀ k, k < w.heap.size → w'.heap[k]? = w.heap[k]?) (hn : Chunks w' (fun k => k < w.heap.size) Hn) : HA w0 F (Hn ++ H) w' :=
  h.none.write fun _ hS _ => ⟨hos, htape, hout, hsz, fun k hlt _ => hk k hlt, hn.congr fun k => ⟨fun hlt => ⟨hlt, hS k⟩, (·.1)⟩⟩


/-! ### Code -/
abbrev Kt := Exit → Env → List HP → Prop

def QK (n : Nat) (w0 : World) (F : Nat → Prop) (K : Kt) : Exit → Act → World → Prop := fun e a w => ∃ l H, Ag n l a ∧ HA w0 F H w ∧ K e l H

def CW (P : Program) (n : Nat) (w0 : World) (F : Nat → Prop) (c : Code) (K : Kt) (l : Env) (H : List HP) : Prop :=
  ∀ a w, Ag n l a → HA w0 F H w → c.wp P (QK n w0 F K) a w

def OW (P : Program) (n : Nat) (w0 : World) (F : Nat → Prop) (ops : Array Oper) (K : Kt) (rest : List Oper) (l : Env) (H : List HP) : Prop :=
  ∀ a w, Ag n l a → HA w0 F H w → wpList P ops (QK n w0 F K) rest a w

def thenK (K : Kt) (f : Env → List HP → Prop) : Kt
  | .normal, l, H => f l H
  | .exit i, l, H => K (.exit i) l H
  | .goto i, l, H => K (.goto i) l H
  | .ret, l, H => K .ret l H
  | .panic c, l, H => K (.panic c) l H
  | .outgrown, l, H => K .outgrown l H

def blockK (id : Nat) (K : Kt) : Kt
  | .exit i, l, H => bif Nat.beq i id then K .normal l H else K (.exit i) l H
  | .normal, l, H => K .normal l H
  | .goto i, l, H => K (.goto i) l H
  | .ret, l, H => K .ret l H
  | .panic c, l, H => K (.panic c) l H
  | .outgrown, l, H => K .outgrown l H

section
variable {P : Program} {n : Nat} {w0 : World} {F : Nat → Prop} {K : Kt} {l : Env} {H : List HP}

theorem CW.mono {c : Code} {K' : Kt} (h : CW P n w0 F c K l H) (hk : ∀ e l H, K e l H → K' e l H) : CW P n w0 F c K' l H :=
  fun a w ha hw => wp_mono (h a w ha hw) fun e _ _ ⟨l', H', h1, h2, h3⟩ => ⟨l', H', h1, h2, hk e l' H' h3⟩

theorem CW.cov {c : Code} {l' : Env} (hc : Cov l l') (h : CW P n w0 F c K l' H) : CW P n w0 F c K l H := fun a w ha hw => h a w (ha.cov hc) hw

theorem CW.sels {c : Code} {H' : List HP} (is : List Nat) (hs : sels H is = some H') (h : CW P n w0 F c K l H') : CW P n w0 F c K l H :=
  fun a w ha hw => h a w ha { hw with chunks := sels_chunks hs hw.chunks }

theorem CW.seq {x y : Code} (h : CW P n w0 F x (thenK K (CW P n w0 F y K)) l H) : CW P n w0 F (.seq x y) K l H := fun a w ha hw => by
  refine wp_seq (wp_mono (h a w ha hw) fun e a' w' ⟨l', H', h1, h2, h3⟩ => ?_)
  cases e with
  | normal => exact h3 a' w' h1 h2
  | exit i => exact ⟨l', H', h1, h2, h3⟩
  | goto i => exact ⟨l', H', h1, h2, h3⟩
  | ret => exact ⟨l', H', h1, h2, h3⟩
  | panic c => exact ⟨l', H', h1, h2, h3⟩
  | outgrown => exact ⟨l', H', h1, h2, h3⟩

theorem CW.skip (h : K .normal l H) : CW P n w0 F .skip K l H := fun _ _ ha hw => wp_skip ⟨l, H, ha, hw, h⟩
theorem CW.exit {i : Nat} (h : K (.exit i) l H) : CW P n w0 F (.exit i) K l H := fun _ _ ha hw => wp_exit ⟨l, H, ha, hw, h⟩
theorem CW.ret (h : K .ret l H) : CW P n w0 F .ret K l H := fun _ _ ha hw => wp_ret ⟨l, H, ha, hw, h⟩
theorem CW.label {i : Nat} (h : K .normal l H) : CW P n w0 F (.label i) K l H := fun _ _ ha hw => wp_label ⟨l, H, ha, hw, h⟩

theorem CW.block {i : Nat} {c : Code} (h : CW P n w0 F c (blockK i K) l H) : CW P n w0 F (.block i c) K l H := fun a w ha hw => by
  refine wp_block (wp_mono (h a w ha hw) fun e a' w' ⟨l', H', h1, h2, h3⟩ => ?_)
  cases e with
  | exit j =>
    simp only [blockK] at h3
    simp only [Exit.inBlock]
    by_cases hj : j = i
    · subst hj
      simp only [Nat.beq_refl, cond_true] at h3
      simp only [if_true]
      exact ⟨l', H', h1, h2, h3⟩
    · have : Nat.beq j i = false := by
        cases hb : Nat.beq j i with
        | true => exact absurd (Nat.eq_of_beq_eq_true hb) hj
        | false => rfl
      rw [this] at h3
      rw [if_neg hj]
      exact ⟨l', H', h1, h2, h3⟩
  | normal => exact ⟨l', H', h1, h2, h3⟩
  | goto i => exact ⟨l', H', h1, h2, h3⟩
  | ret => exact ⟨l', H', h1, h2, h3⟩
  | panic c => exact ⟨l', H', h1, h2, h3⟩
  | outgrown => exact ⟨l', H', h1, h2, h3⟩

theorem CW.cond {c : Operand} {x y : Code} {b : Bool} (hc : ev l c = some (.bool b)) (ht : b = true → CW P n w0 F x K l H) (hf : b = false → CW P n w0 F y K l H) :
    CW P n w0 F (.cond c x y) K l H := fun a w ha hw =>
  wp_cond_split (ha.ev hc) (fun h => ht h a w ha hw) (fun h => hf h a w ha hw)

theorem CW.cond_t {c : Operand} {x y : Code} (hc : ev l c = some (.bool true)) (ht : CW P n w0 F x K l H) : CW P n w0 F (.cond c x y) K l H :=
  CW.cond hc (fun _ => ht) (fun h => by cases h)
theorem CW.cond_f {c : Operand} {x y : Code} (hc : ev l c = some (.bool false)) (hf : CW P n w0 F y K l H) : CW P n w0 F (.cond c x y) K l H :=
  CW.cond hc (fun h => by cases h) (fun _ => hf)

/-- an entry read otherwise: the slot's value is equal to another. -/
theorem CW.put {c : Code} (s : Nat) {v : Value} (v' : Value) (hs : lk l s = some v) (he : v = v') (h : CW P n w0 F c K ((s, v') :: l) H) : CW P n w0 F c K l H :=
  fun a w ha hw => h a w ⟨ha.size, ha.defers, fun t u hu => by
    simp only [lk] at hu
    cases hb : Nat.beq s t with
    | true =>
      rw [hb] at hu
      simp only [cond_true, Option.some.injEq] at hu
      rw [← Nat.eq_of_beq_eq_true hb, ← hu, ← he]
      exact ha.get s v hs
    | false =>
      rw [hb] at hu
      exact ha.get t u hu⟩ hw

/-- a loop: the relation at the head speaks of a number that each round lowers. -/
theorem CW.loop {c : Code} (I : Nat → Env → List HP → Prop) (m0 : Nat) (h0 : ∃ l', Cov l l' ∧ I m0 l' H)
    (round : ∀ m l H, I m l H → CW P n w0 F c (thenK K (fun l H => ∃ m' l' is H', m' < m ∧ Cov l l' ∧ E.sels H is = some H' ∧ I m' l' H')) l H) :
    CW P n w0 F (.loop c) K l H := by
  have key : ∀ m, ∀ l H, I m l H → ∀ a w, Ag n l a → HA w0 F H w → ∀ b k cs,
      ∃ e a' w', QK n w0 F K e a' w' ∧ Arrives P (lone (b.at a (.code c :: .inLoop c :: k)) cs w) b k cs e a' w' := by
    intro m
    induction m using Nat.strongRecOn with
    | _ m ih =>
      intro l H hI a w ha hw b k cs
      obtain ⟨e, a1, w1, ⟨l1, H1, h1, h2, h3⟩, harr⟩ := round m l H hI a w ha hw b (.inLoop c :: k) cs
      cases e with
      | normal =>
        obtain ⟨m', l', is, H', hlt, hc, hs, hI'⟩ := h3
        obtain ⟨e2, a2, w2, hq2, harr2⟩ := ih m' hlt l' H' hI' a1 w1 (h1.cov hc) { h2 with chunks := sels_chunks hs h2.chunks } b k cs
        exact ⟨e2, a2, w2, hq2, .of_steps (Steps.trans harr (.one step_inLoop)) harr2⟩
      | exit id => exact ⟨_, a1, w1, ⟨l1, H1, h1, h2, h3⟩, .pass (x := .inLoop c) rfl (fun _ _ => .inl (by simp)) harr⟩
      | goto id => exact ⟨_, a1, w1, ⟨l1, H1, h1, h2, h3⟩, .pass (x := .inLoop c) rfl (fun _ _ => .inl (by simp)) harr⟩
      | ret => exact ⟨_, a1, w1, ⟨l1, H1, h1, h2, h3⟩, .pass (x := .inLoop c) rfl (fun _ _ => .inl (by simp)) harr⟩
      | panic id => exact ⟨_, a1, w1, ⟨l1, H1, h1, h2, h3⟩, .pass (x := .inLoop c) rfl (fun _ _ => .inl (by simp)) harr⟩
      | outgrown => exact ⟨_, a1, w1, ⟨l1, H1, h1, h2, h3⟩, .pass (x := .inLoop c) rfl (fun _ _ => .inl (by simp)) harr⟩
  obtain ⟨l', hc, hI⟩ := h0
  intro a w ha hw b k cs
  obtain ⟨e, a', w', hq, harr⟩ := key m0 l' H hI a w (ha.cov hc) hw b k cs
  exact ⟨e, a', w', hq, .of_steps (.one step_loop) harr⟩

/-! ### Regions and calls -/
theorem CW.region {id : Nat} {ops : List Oper} (h : OW P n w0 F ops.toArray K ops l H) : CW P n w0 F (.region id ops.toArray false) K l H :=
  fun a w ha hw => wp_region_lit (h a w ha hw)

theorem OW.nil {ops : Array Oper} (h : K .normal l H) : OW P n w0 F ops K [] l H := fun _ _ ha hw => ⟨l, H, ha, hw, h⟩

/-- the lexical walk of a region that draws its order: the memory is let alone. -/
def QW (P : Program) (n : Nat) (w0 : World) (F : Nat → Prop) (ops : Array Oper) (K : Kt) (rest : List Oper) (l : Env) (H : List HP) : Prop :=
  ∀ a, Ag n l a → wpQuiet P ops (HA w0 F H) (fun a' => ∀ w', HA w0 F H w' → QK n w0 F K .normal a' w') rest a

theorem CW.draw {id : Nat} {ops : List Oper} (hm : P.follows .mixedOrders = true) (hB : Region.lexB .any ops.toArray = true) (h : QW P n w0 F ops.toArray K ops l H) :
    CW P n w0 F (.region id ops.toArray true) K l H := fun a w ha hw =>
  wp_region_quiet (C := HA w0 F H) hm hB (hw.drew) (by simpa using h a ha)

theorem QW.nil {ops : Array Oper} (h : K .normal l H) : QW P n w0 F ops K [] l H := fun _ ha => wpQuiet_nil fun _ hw => ⟨l, H, ha, hw, h⟩

/-- an operation that computes a value and lets the memory alone. -/
def PV (P : Program) (n : Nat) (w0 : World) (F : Nat → Prop) (l : Env) (H : List HP) (o : Oper) (v : Value) : Prop :=
  ∀ a w, Ag n l a → HA w0 F H w → (execOp a.eval o).run P w = .ok (.value v) w

theorem OW.pure {ops : Array Oper} {o : Oper} {rest : List Oper} {d : Nat} {v : Value} (hg : gd ops l o.guard = some true) (hd : o.dst = some d) (hn : Nat.blt d n = true)
    (h : PV P n w0 F l H o v) (k : OW P n w0 F ops K rest ((d, v) :: l) H) : OW P n w0 F ops K (o :: rest) l H := fun a w ha hw => by
  refine wpList_step fun K' hK' => ?_
  rw [if_pos (ha.wanted hg)]
  unfold Oper.wp
  rw [h a w ha hw, Oper.upon_value, hd]
  exact hK' _ _ (k _ _ (ha.put hn v) hw)

theorem QW.pure {ops : Array Oper} {o : Oper} {rest : List Oper} {d : Nat} {v : Value} (hg : gd ops l o.guard = some true) (hd : o.dst = some d) (hn : Nat.blt d n = true)
    (h : PV P n w0 F l H o v) (k : QW P n w0 F ops K rest ((d, v) :: l) H) : QW P n w0 F ops K (o :: rest) l H := fun a ha => by
  refine wpQuiet_step fun K' hK' => ?_
  rw [if_pos (ha.wanted hg)]
  refine ⟨v, fun w hw => ?_, ?_⟩
  · unfold Oper.quietAt
    rw [h a w ha hw]
    exact ⟨rfl, rfl⟩
  · rw [hd]; exact hK' _ (k _ (ha.put hn v))

theorem OW.off {ops : Array Oper} {o : Oper} {rest : List Oper} {d : Nat} (hg : gd ops l o.guard = some false) (hd : o.dst = some d) (hn : Nat.blt d n = true)
    (k : OW P n w0 F ops K rest ((d, undef) :: l) H) : OW P n w0 F ops K (o :: rest) l H := fun a w ha hw => by
  refine wpList_step fun K' hK' => ?_
  rw [if_neg (by rw [ha.wanted hg]; simp), hd]
  exact hK' _ _ (k _ _ (ha.put hn _) hw)

theorem OW.off_none {ops : Array Oper} {o : Oper} {rest : List Oper} (hg : gd ops l o.guard = some false) (hd : o.dst = none)
    (k : OW P n w0 F ops K rest l H) : OW P n w0 F ops K (o :: rest) l H := fun a w ha hw => by
  refine wpList_step fun K' hK' => ?_
  rw [if_neg (by rw [ha.wanted hg]; simp), hd]
  exact hK' _ _ (k _ _ (ha.put_none _) hw)

theorem QW.off {ops : Array Oper} {o : Oper} {rest : List Oper} {d : Nat} (hg : gd ops l o.guard = some false) (hd : o.dst = some d) (hn : Nat.blt d n = true)
    (k : QW P n w0 F ops K rest ((d, undef) :: l) H) : QW P n w0 F ops K (o :: rest) l H := fun a ha => by
  refine wpQuiet_step fun K' hK' => ?_
  rw [if_neg (by rw [ha.wanted hg]; simp), hd]
  exact hK' _ (k _ (ha.put hn _))

theorem Ag.same {n : Nat} {l : Env} {a : Act} (ha : Ag n l a) {s : Nat} {v v' : Value} (hs : lk l s = some v) (he : v = v') : Ag n ((s, v') :: l) a :=
  ⟨ha.size, ha.defers, fun t u hu => by
    simp only [lk] at hu
    cases hb : Nat.beq s t with
    | true =>
      rw [hb] at hu
      simp only [cond_true, Option.some.injEq] at hu
      rw [← Nat.eq_of_beq_eq_true hb, ← hu, ← he]
      exact ha.get s v hs
    | false =>
      rw [hb] at hu
      exact ha.get t u hu⟩

theorem OW.put {ops : Array Oper} {rest : List Oper} (s : Nat) {v : Value} (v' : Value) (hs : lk l s = some v) (he : v = v') (k : OW P n w0 F ops K rest ((s, v') :: l) H) :
    OW P n w0 F ops K rest l H := fun a w ha hw => k a w (ha.same hs he) hw
theorem QW.put {ops : Array Oper} {rest : List Oper} (s : Nat) {v : Value} (v' : Value) (hs : lk l s = some v) (he : v = v') (k : QW P n w0 F ops K rest ((s, v') :: l) H) :
    QW P n w0 F ops K rest l H := fun a ha => k a (ha.same hs he)

/-- a Bool in a slot, split. -/
theorem OW.split {ops : Array Oper} {rest : List Oper} (s : Nat) {b : Bool} (hs : lk l s = some (.bool b))
    (ht : b = true → OW P n w0 F ops K rest ((s, .bool true) :: l) H) (hf : b = false → OW P n w0 F ops K rest ((s, .bool false) :: l) H) : OW P n w0 F ops K rest l H := by
  cases b with
  | true => exact OW.put s _ hs rfl (ht rfl)
  | false => exact OW.put s _ hs rfl (hf rfl)
theorem QW.split {ops : Array Oper} {rest : List Oper} (s : Nat) {b : Bool} (hs : lk l s = some (.bool b))
    (ht : b = true → QW P n w0 F ops K rest ((s, .bool true) :: l) H) (hf : b = false → QW P n w0 F ops K rest ((s, .bool false) :: l) H) : QW P n w0 F ops K rest l H := by
  cases b with
  | true => exact QW.put s _ hs rfl (ht rfl)
  | false => exact QW.put s _ hs rfl (hf rfl)

/-- an operation that turns the memory. -/
theorem OW.step {ops : Array Oper} {o : Oper} {rest : List Oper} {d : Nat} (hg : gd ops l o.guard = some true) (hd : o.dst = some d) (hn : Nat.blt d n = true)
    (R : Value → List HP → Prop)
    (h : ∀ a w, Ag n l a → HA w0 F H w → ∃ v w' H', (execOp a.eval o).run P w = .ok (.value v) w' ∧ R v H' ∧ HA w0 F H' w')
    (k : ∀ v H', R v H' → OW P n w0 F ops K rest ((d, v) :: l) H') : OW P n w0 F ops K (o :: rest) l H := fun a w ha hw => by
  refine wpList_step fun K' hK' => ?_
  rw [if_pos (ha.wanted hg)]
  obtain ⟨v, w', H', hr, hR, hw'⟩ := h a w ha hw
  unfold Oper.wp
  rw [hr, Oper.upon_value, hd]
  exact hK' _ _ (k v H' hR _ _ (ha.put hn v) hw')

/-- an operation that turns the memory and has no value (a store). -/
theorem OW.act {ops : Array Oper} {o : Oper} {rest : List Oper} (hg : gd ops l o.guard = some true) (hd : o.dst = none) {H' : List HP}
    (h : ∀ a w, Ag n l a → HA w0 F H w → ∃ w', (execOp a.eval o).run P w = .ok .skip w' ∧ HA w0 F H' w')
    (k : OW P n w0 F ops K rest l H') : OW P n w0 F ops K (o :: rest) l H := fun a w ha hw => by
  refine wpList_step fun K' hK' => ?_
  rw [if_pos (ha.wanted hg)]
  obtain ⟨w', hr, hw'⟩ := h a w ha hw
  unfold Oper.wp
  rw [hr, Oper.upon_skip, hd]
  exact hK' _ _ (k _ _ (ha.put_none _) hw')

/-- what a call ends in: a value and new chunks of which R holds; of what was there the blocks F alone are sure to stay. -/
def Post (w0 : World) (F : Nat → Prop) (R : Value → List HP → Prop) (e : Ending) (w' : World) : Prop := ∃ v Hn, e = .returned v ∧ R v Hn ∧ HA w0 F Hn w'

def Old (w : World) : Nat → Prop := fun k => k < w.heap.size

/-- a function that can be called by name. -/
def Nm (P : Program) (f : Nat) : Prop := ∃ fn, P.funcs[f]? = some fn ∧ fn.body.isSome = true ∧ (fn.name == "runtime.NumGoroutine") = false

theorem run_call {o : Oper} {a : Act} {w : World} {f : Nat} {fo : Operand} {xs : List Operand} {ts : Array TypeId} {vs : List Value} (hf : Nm P f)
    (hfo : a.eval fo = .func (.func f) #[] #[]) (ho : o.op = .call { callee := .value fo, args := xs.toArray, argTypes := ts }) (hx : xs.map a.eval = vs) :
    (execOp a.eval o).run P w = .ok (.enter f vs.toArray) w := by
  obtain ⟨fn, h1, h2, h3⟩ := hf
  have hb : fn.body ≠ none := by intro h; rw [h] at h2; cases h2
  have hn : fn.name ≠ "runtime.NumGoroutine" := by simpa using h3
  simp [execOp, ho, resolve, Deferred.ofValue, invoke, callFunc, program, Sem.run, h1, hn, hb, hfo, hx]

/-- a call of a function that lets what is there alone. -/
theorem OW.call {ops : Array Oper} {o : Oper} {rest : List Oper} {d : Nat} {f : Nat} {fo : Operand} {xs : List Operand} {ts : Array TypeId} {vs : List Value} (hf : Nm P f)
    (hg : gd ops l o.guard = some true) (hd : o.dst = some d) (hn : Nat.blt d n = true) (ho : o.op = .call { callee := .value fo, args := xs.toArray, argTypes := ts })
    (hfo : ev l fo = some (.func (.func f) #[] #[])) (hx : evs l xs = some vs) (R : Value → List HP → Prop)
    (h : ∀ w, HA w0 F H w → Calls P f vs.toArray w (Post w (Old w) R))
    (k : ∀ v Hn, R v Hn → OW P n w0 F ops K rest ((d, v) :: l) (Hn ++ H)) : OW P n w0 F ops K (o :: rest) l H := fun a w ha hw => by
  refine wpList_step fun K' hK' => ?_
  rw [if_pos (ha.wanted hg)]
  unfold Oper.wp
  rw [run_call hf (ha.ev hfo) ho (ha.evs hx), Oper.upon_enter]
  refine (h w hw).mono fun e w' ⟨v, Hn, he, hR, hw'⟩ => ?_
  subst he
  rw [hd]
  exact hK' _ _ (k v Hn hR _ _ (ha.put hn v) (hw.make hw'.os hw'.tape hw'.output hw'.size (fun k hk => hw'.kept k hk) hw'.chunks))

/-- what is old now was old before, or is the function's own: a later world keeps it all. -/
theorem HA.old {w w2 : World} (h2 : HA w (Old w) [] w2) (h : HA w0 F H w) : HA w0 F [] w2 :=
  ⟨h2.os.trans h.os, h2.tape.trans h.tape, h2.output.trans h.output, Nat.le_trans h.size h2.size, h.flt, fun k hk => (h2.kept k (Nat.lt_of_lt_of_le (h.flt k hk) h.size)).trans (h.kept k hk), trivial⟩

theorem HA.base {w : World} (h : HA w0 F H w) : HA w0 F [] w := { h with chunks := trivial }

/-- a call of a function value that has captured something. -/
theorem run_callc {o : Oper} {a : Act} {w : World} {f : Nat} {fo : Operand} {xs : List Operand} {ts : Array TypeId} {vs : List Value} {caps : Array Value} (hf : Nm P f)
    (hfo : a.eval fo = .func (.func f) #[] caps) (ho : o.op = .call { callee := .value fo, args := xs.toArray, argTypes := ts }) (hx : xs.map a.eval = vs) :
    (execOp a.eval o).run P w = .ok (.enter f (vs.toArray ++ caps)) w := by
  obtain ⟨fn, h1, h2, h3⟩ := hf
  have hb : fn.body ≠ none := by intro h; rw [h] at h2; cases h2
  have hn : fn.name ≠ "runtime.NumGoroutine" := by simpa using h3
  simp [execOp, ho, resolve, Deferred.ofValue, invoke, callFunc, program, Sem.run, h1, hn, hb, hfo, hx]
theorem OW.callc {ops : Array Oper} {o : Oper} {rest : List Oper} {d : Nat} {f : Nat} {fo : Operand} {xs : List Operand} {ts : Array TypeId} {vs : List Value} {caps : Array Value} (hf : Nm P f)
    (hg : gd ops l o.guard = some true) (hd : o.dst = some d) (hn : Nat.blt d n = true) (ho : o.op = .call { callee := .value fo, args := xs.toArray, argTypes := ts })
    (hfo : ev l fo = some (.func (.func f) #[] caps)) (hx : evs l xs = some vs) (R : Value → List HP → Prop)
    (h : ∀ w, HA w0 F H w → Calls P f (vs.toArray ++ caps) w (Post w (Old w) R))
    (k : ∀ v Hn, R v Hn → OW P n w0 F ops K rest ((d, v) :: l) (Hn ++ H)) : OW P n w0 F ops K (o :: rest) l H := fun a w ha hw => by
  refine wpList_step fun K' hK' => ?_
  rw [if_pos (ha.wanted hg)]
  unfold Oper.wp
  rw [run_callc hf (ha.ev hfo) ho (ha.evs hx), Oper.upon_enter]
  refine (h w hw).mono fun e w' ⟨v, Hn, he, hR, hw'⟩ => ?_
  subst he
  rw [hd]
  exact hK' _ _ (k v Hn hR _ _ (ha.put hn v) (hw.make hw'.os hw'.tape hw'.output hw'.size (fun k hk => hw'.kept k hk) hw'.chunks))

/-- .. in a region that draws its order: the value is known, what it makes is dropped. -/
theorem QW.call {ops : Array Oper} {o : Oper} {rest : List Oper} {d : Nat} {f : Nat} {fo : Operand} {xs : List Operand} {ts : Array TypeId} {vs : List Value} (hf : Nm P f)
    (hg : gd ops l o.guard = some true) (hd : o.dst = some d) (hn : Nat.blt d n = true) (ho : o.op = .call { callee := .value fo, args := xs.toArray, argTypes := ts })
    (hfo : ev l fo = some (.func (.func f) #[] #[])) (hx : evs l xs = some vs) (v : Value)
    (h : ∀ w, HA w0 F H w → Calls P f vs.toArray w (Post w (Old w) fun u _ => u = v))
    (k : QW P n w0 F ops K rest ((d, v) :: l) H) : QW P n w0 F ops K (o :: rest) l H := fun a ha => by
  refine wpQuiet_step fun K' hK' => ?_
  rw [if_pos (ha.wanted hg)]
  refine ⟨v, fun w hw => ?_, ?_⟩
  · unfold Oper.quietAt
    rw [run_call hf (ha.ev hfo) ho (ha.evs hx)]
    refine ⟨rfl, (h w hw).mono fun e w' ⟨u, Hn, he, hR, hw'⟩ => ⟨by rw [he, hR], ?_⟩⟩
    have := hw.make hw'.os hw'.tape hw'.output hw'.size (fun k hk => hw'.kept k hk) (Hn := []) trivial
    exact this
  · rw [hd]; exact hK' _ (k _ (ha.put hn v))

/-- a call of a function that may turn the chunk i, and lets all else alone. -/
theorem OW.callM {ops : Array Oper} {o : Oper} {rest : List Oper} {d : Nat} {f : Nat} {fo : Operand} {xs : List Operand} {ts : Array TypeId} {vs : List Value} (hf : Nm P f)
    (hg : gd ops l o.guard = some true) (hd : o.dst = some d) (hn : Nat.blt d n = true) (ho : o.op = .call { callee := .value fo, args := xs.toArray, argTypes := ts })
    (hfo : ev l fo = some (.func (.func f) #[] #[])) (hx : evs l xs = some vs) (R : Value → List HP → Prop) (i : Nat) {p : HP} {H' : List HP} (hi : E.sel H i = some (p, H'))
    (h : ∀ w S, HA w0 F (p :: H') w → p.sem S w → (∀ k, S k → k < w.heap.size ∧ ¬ F k) → Chunks w (fun k => F k ∨ S k) H' → Calls P f vs.toArray w (Post w (fun k => k < w.heap.size ∧ ¬ S k) R))
    (k : ∀ v Hn, R v Hn → OW P n w0 F ops K rest ((d, v) :: l) (Hn ++ H')) : OW P n w0 F ops K (o :: rest) l H := fun a w ha hw => by
  refine wpList_step fun K' hK' => ?_
  rw [if_pos (ha.wanted hg)]
  unfold Oper.wp
  rw [run_call hf (ha.ev hfo) ho (ha.evs hx), Oper.upon_enter]
  have hw1 := hw.perm (sel_perm hi)
  obtain ⟨S, h1, h2, h3⟩ := hw1.chunks
  refine (h w S hw1 h1 h2 h3).mono fun e w' ⟨v, Hn, he, hR, hw'⟩ => ?_
  subst he
  rw [hd]
  refine hK' _ _ (k v Hn hR _ _ (ha.put hn v) ?_)
  have hF : ∀ k, F k → k < w.heap.size ∧ ¬ S k := fun k hf => ⟨Nat.lt_of_lt_of_le (hw.flt k hf) hw.size, fun hs => (h2 k hs).2 hf⟩
  refine ⟨hw'.os.trans hw.os, hw'.tape.trans hw.tape, hw'.output.trans hw.output, Nat.le_trans hw.size hw'.size, hw.flt, fun k hf => (hw'.kept k (hF k hf)).trans (hw.kept k hf), ?_⟩
  refine Chunks.app (G := fun k => k < w.heap.size ∧ ¬ S k) ?_ ?_
  · exact hw'.chunks.congr fun k => ⟨.inr, fun hk' => hk'.elim (hF k) id⟩
  · exact ChunksB.of (w := w) hw'.size (fun k hk' => hw'.kept k hk') (U := fun k => F k ∨ S k) (fun k hlt hn => ⟨hlt, fun hs => hn (.inr hs)⟩) (fun k hf => .inl hf) h3

end

/-! ### A drawn region that is not quiet: an operation that looks at no world, or at the held chunks HS alone, is taken first; where two are ready, both ways are walked. -/
section
variable {P : Program} {n : Nat} {w0 : World} {F : Nat → Prop} {K : Kt} {l : Env} {H HS : List HP} {ops : Array Oper} {fuel : Nat} {listed : Array Bool} {o : Oper}
def Kn (C : Env → List HP → Prop) : Kt := fun e l H => e = .normal ∧ C l H
def AQ (n : Nat) (w0 : World) (F : Nat → Prop) (K : Kt) : Exit → Act → World → Prop := fun e a w => e = .normal ∧ QK n w0 F K .normal a w
def AW (P : Program) (n : Nat) (w0 : World) (F : Nat → Prop) (ops : Array Oper) (K : Kt) (HS : List HP) (fuel : Nat) (listed : Array Bool) (l : Env) (H : List HP) : Prop :=
  ∀ a w, Ag n l a → HA w0 F H w → HA w0 F HS w → wpAnyH P .any ops (AQ n w0 F K) (HA w0 F HS) fuel listed a w
def AH (HS : List HP) (C : Env → List HP → Prop) : Kt := Kn fun l H => (∃ is, E.sels H is = some HS) ∧ C l H

theorem HA.sels {w : World} {H' : List HP} (hw : HA w0 F H w) {is : List Nat} (hs : E.sels H is = some H') : HA w0 F H' w := { hw with chunks := sels_chunks hs hw.chunks }

theorem CW.drawx {id : Nat} {ops : List Oper} (hm : P.follows .mixedOrders = true) (is : List Nat) (hs : E.sels H is = some HS) (h : AW P n w0 F ops.toArray K HS ops.toArray.size (Array.replicate ops.toArray.size false) l H) :
    CW P n w0 F (.region id ops.toArray true) K l H := fun a w ha hw =>
  wp_mono (wp_region_held hm (h a _ ha hw.drew (hw.drew.sels hs))) fun e a w ⟨he, hq⟩ => by subst he; exact hq

theorem AW.take (i : Nat) {v : Value} (hi : ops[i]? = some o) (hs : Region.noSelect ops = true) (hf : Region.free .any ops listed i = true) (hr : (Region.ready .any ops listed).contains i = true)
    (h : ∀ a, Ag n l a → YieldsIf P ops (HA w0 F HS) o v a) (k : ∀ a w, Ag n l a → HA w0 F H w → HA w0 F HS w → wpAnyH P .any ops (AQ n w0 F K) (HA w0 F HS) fuel (listed.setIfInBounds i true) (a.put o.dst v) w) : AW P n w0 F ops K HS (fuel + 1) listed l H := fun a w ha hw hh =>
  wpAnyH_take hi hs hf hr (fun c a w hq => by cases hq.1) (h a ha) hh (k a w ha hw hh)

theorem AW.first (i : Nat) {d : Nat} {v : Value} (hi : ops[i]? = some o) (hs : Region.noSelect ops = true) (hf : Region.free .any ops listed i = true) (hr : (Region.ready .any ops listed).contains i = true)
    (hg : gd ops l o.guard = some true) (hd : o.dst = some d) (hn : Nat.blt d n = true) (h : PV P n w0 F l HS o v)
    (k : AW P n w0 F ops K HS fuel (listed.setIfInBounds i true) ((d, v) :: l) H) : AW P n w0 F ops K HS (fuel + 1) listed l H :=
  AW.take i hi hs hf hr (fun a ha => .inl ⟨ha.wanted hg, fun w hw => h a w ha hw⟩) fun a w ha hw => by rw [hd]; exact k _ w (ha.put hn v) hw

theorem AW.first_off (i : Nat) {d : Nat} (hi : ops[i]? = some o) (hs : Region.noSelect ops = true) (hf : Region.free .any ops listed i = true) (hr : (Region.ready .any ops listed).contains i = true)
    (hg : gd ops l o.guard = some false) (hd : o.dst = some d) (hn : Nat.blt d n = true)
    (k : AW P n w0 F ops K HS fuel (listed.setIfInBounds i true) ((d, undef) :: l) H) : AW P n w0 F ops K HS (fuel + 1) listed l H :=
  AW.take i hi hs hf hr (fun a ha => .inr ⟨ha.wanted hg, rfl⟩) fun a w ha hw => by rw [hd]; exact k _ w (ha.put hn _) hw

theorem AW.first_offn (i : Nat) (hi : ops[i]? = some o) (hs : Region.noSelect ops = true) (hf : Region.free .any ops listed i = true) (hr : (Region.ready .any ops listed).contains i = true)
    (hg : gd ops l o.guard = some false) (hd : o.dst = none)
    (k : AW P n w0 F ops K HS fuel (listed.setIfInBounds i true) l H) : AW P n w0 F ops K HS (fuel + 1) listed l H :=
  AW.take i hi hs hf hr (fun a ha => .inr ⟨ha.wanted hg, rfl⟩) fun a w ha hw => by rw [hd]; exact k _ w (ha.put_none _) hw

theorem wp_swapQ {a : Act} {w : World} {K K' : Act → World → Prop} {Q Q' : Exit → Act → World → Prop} (hK : ∀ a w, K a w → K' a w) (hp : ∀ e a w, e ≠ .normal → ¬ Q e a w) (hh : o.wp P a w K Q) : o.wp P a w K' Q' := by
  unfold Oper.wp at *
  generalize (execOp a.eval o).run P w = r at *
  cases r with
  | ok x w' =>
    cases x <;> simp only [Oper.upon] at hh ⊢ <;>
      first
        | exact hK _ _ hh
        | exact Calls.mono hh (fun e w'' he => by
            cases e
            · exact hK _ _ he
            · exact absurd he (hp _ _ _ (by simp))
            · obtain ⟨a, w, hq⟩ := he; exact absurd hq (hp _ _ _ (by simp)))
        | exact Rows.mono hh (fun _ _ he => hK _ _ he)
  | halt x w' =>
    cases x <;> simp only [Oper.upon] at hh ⊢
    exact absurd hh (hp _ _ _ (by simp))

theorem op_of_ow {C : Env → List HP → Prop} {i : Nat} {a : Act} {w : World} (hi : ops[i]? = some o) (h : OW P n w0 F ops (Kn C) [o] l H) (ha : Ag n l a) (hw : HA w0 F H w)
    {K' : Act → World → Prop} {Q' : Exit → Act → World → Prop} (hC : ∀ l H a w, C l H → Ag n l a → HA w0 F H w → K' a w) : wpOp P ops Q' i K' a w := by
  have h1 := h a w ha hw
  have fin : ∀ a w, wpList P ops (QK n w0 F (Kn C)) [] a w → K' a w := fun a w ⟨l, H, h1, h2, _, h3⟩ => hC l H a w h3 h1 h2
  unfold wpOp
  simp only [hi]
  unfold wpList at h1
  split
  · rename_i hwd
    rw [if_pos hwd] at h1
    rcases h1 with h1 | ⟨_, _, _, _, _, _, _, h, _⟩
    · exact .inl (wp_swapQ fin (fun e a w he hq => by obtain ⟨_, _, _, _, h, _⟩ := hq; exact he h) h1)
    · cases h
  · rename_i hwd
    rw [if_neg hwd] at h1
    exact fin _ _ h1

theorem AW.one (i : Nat) (hr : Region.ready .any ops listed = [i]) (hi : ops[i]? = some o) (h : OW P n w0 F ops (AH HS (AW P n w0 F ops K HS fuel (listed.setIfInBounds i true))) [o] l H) : AW P n w0 F ops K HS (fuel + 1) listed l H := fun a w ha hw _ =>
  wpAnyH_all hr (by simp) fun j hj => by
    simp only [List.mem_singleton] at hj
    subst hj
    exact op_of_ow hi h ha hw fun l H a w ⟨⟨_, hs⟩, hc⟩ ha hw => ⟨hw.sels hs, hc a w ha hw (hw.sels hs)⟩

theorem AW.two (i j : Nat) {o2 : Oper} (hr : Region.ready .any ops listed = [i, j]) (hi : ops[i]? = some o) (hj : ops[j]? = some o2)
    (h : OW P n w0 F ops (AH HS (AW P n w0 F ops K HS fuel (listed.setIfInBounds i true))) [o] l H) (h2 : OW P n w0 F ops (AH HS (AW P n w0 F ops K HS fuel (listed.setIfInBounds j true))) [o2] l H) : AW P n w0 F ops K HS (fuel + 1) listed l H := fun a w ha hw _ =>
  wpAnyH_all hr (by simp) fun k hk => by
    simp only [List.mem_cons, List.not_mem_nil, or_false] at hk
    rcases hk with rfl | rfl
    · exact op_of_ow hi h ha hw fun l H a w ⟨⟨_, hs⟩, hc⟩ ha hw => ⟨hw.sels hs, hc a w ha hw (hw.sels hs)⟩
    · exact op_of_ow hj h2 ha hw fun l H a w ⟨⟨_, hs⟩, hc⟩ ha hw => ⟨hw.sels hs, hc a w ha hw (hw.sels hs)⟩

theorem AW.three (i j q : Nat) {o2 o3 : Oper} (hr : Region.ready .any ops listed = [i, j, q]) (hi : ops[i]? = some o) (hj : ops[j]? = some o2) (hq : ops[q]? = some o3)
    (h : OW P n w0 F ops (AH HS (AW P n w0 F ops K HS fuel (listed.setIfInBounds i true))) [o] l H) (h2 : OW P n w0 F ops (AH HS (AW P n w0 F ops K HS fuel (listed.setIfInBounds j true))) [o2] l H)
    (h3 : OW P n w0 F ops (AH HS (AW P n w0 F ops K HS fuel (listed.setIfInBounds q true))) [o3] l H) : AW P n w0 F ops K HS (fuel + 1) listed l H := fun a w ha hw _ =>
  wpAnyH_all hr (by simp) fun k hk => by
    simp only [List.mem_cons, List.not_mem_nil, or_false] at hk
    rcases hk with rfl | rfl | rfl
    · exact op_of_ow hi h ha hw fun l H a w ⟨⟨_, hs⟩, hc⟩ ha hw => ⟨hw.sels hs, hc a w ha hw (hw.sels hs)⟩
    · exact op_of_ow hj h2 ha hw fun l H a w ⟨⟨_, hs⟩, hc⟩ ha hw => ⟨hw.sels hs, hc a w ha hw (hw.sels hs)⟩
    · exact op_of_ow hq h3 ha hw fun l H a w ⟨⟨_, hs⟩, hc⟩ ha hw => ⟨hw.sels hs, hc a w ha hw (hw.sels hs)⟩

theorem AW.nil {C : Env → List HP → Prop} (is : List Nat) (hs : E.sels H is = some HS) (h : C l H) : OW P n w0 F ops (AH HS C) [] l H := OW.nil ⟨rfl, ⟨is, hs⟩, h⟩
theorem AW.done (hr : Region.ready .any ops listed = []) (h : K .normal l H) : AW P n w0 F ops K HS fuel listed l H := fun _ _ ha hw _ => wpAnyH_done hr ⟨rfl, l, H, ha, hw, h⟩ _
theorem AW.cov {l' : Env} (hc : Cov l l') (h : AW P n w0 F ops K HS fuel listed l' H) : AW P n w0 F ops K HS fuel listed l H := fun a w ha hw => h a w (ha.cov hc) hw
theorem AW.sels {H' : List HP} (is : List Nat) (hs : E.sels H is = some H') (h : AW P n w0 F ops K HS fuel listed l H') : AW P n w0 F ops K HS fuel listed l H :=
  fun a w ha hw => h a w ha (hw.sels hs)
theorem AW.put (s : Nat) {v : Value} (v' : Value) (hs : lk l s = some v) (he : v = v') (k : AW P n w0 F ops K HS fuel listed ((s, v') :: l) H) : AW P n w0 F ops K HS fuel listed l H :=
  fun a w ha hw => k a w (ha.same hs he) hw
theorem AW.split (s : Nat) {b : Bool} (hs : lk l s = some (.bool b))
    (ht : b = true → AW P n w0 F ops K HS fuel listed ((s, .bool true) :: l) H) (hf : b = false → AW P n w0 F ops K HS fuel listed ((s, .bool false) :: l) H) : AW P n w0 F ops K HS fuel listed l H := by
  cases b with
  | true => exact AW.put s _ hs rfl (ht rfl)
  | false => exact AW.put s _ hs rfl (hf rfl)
end

/-! ### Entering and returning -/
def ini : Nat → List Value → Env
  | _, [] => []
  | i, v :: r => (i, v) :: ini (i + 1) r

theorem lk_ini : ∀ (vs : List Value) (i t : Nat) (v : Value), lk (ini i vs) t = some v → i ≤ t ∧ vs[t - i]? = some v := by
  intro vs
  induction vs with
  | nil => intro i t v h; cases h
  | cons u r ih =>
    intro i t v h
    simp only [ini, lk] at h
    cases hb : Nat.beq i t with
    | true =>
      rw [hb] at h
      simp only [cond_true, Option.some.injEq] at h
      have := Nat.eq_of_beq_eq_true hb
      subst this
      subst h
      simp
    | false =>
      rw [hb] at h
      have := ih (i + 1) t v h
      refine ⟨by omega, ?_⟩
      rw [show t - i = (t - (i + 1)) + 1 by omega, List.getElem?_cons_succ]
      exact this.2

def KR (P : Program) (fn : Func) (n : Nat) (w0 : World) (F : Nat → Prop) (R : Value → List HP → Prop) : Kt
  | .ret, l, H | .normal, l, H => ∃ v Hn is, (∀ a w, Ag n l a → HA w0 F H w → (results fn a.tmps).run P w = .ok v w) ∧ sels H is = some Hn ∧ R v Hn
  | _, _, _ => False

theorem calls_of {P : Program} {f : Nat} {fn : Func} {n : Nat} {c : Code} {vs : List Value} {w0 : World} {F : Nat → Prop} {H : List HP} {R : Value → List HP → Prop}
    (hf : P.funcs[f]? = some fn) (hnt : fn.ntmps = n) (hb : fn.body = some c) (hs : Nat.ble vs.length n = true) (hw : HA w0 F H w0)
    (h : CW P n w0 F c (KR P fn n w0 F R) (ini 0 vs) H) : Calls P f vs.toArray w0 (Post w0 F R) := by
  subst hnt
  have hs' : vs.length ≤ fn.ntmps := Nat.le_of_ble_eq_true hs
  refine calls_of_wp hf hb (wp_mono (h _ w0 ⟨by simp; omega, rfl, fun t v ht => ?_⟩ hw) fun e a w ⟨l, H', ha, hw', hk⟩ => ?_)
  · obtain ⟨_, h2⟩ := lk_ini vs 0 t v ht
    simp only [Nat.sub_zero] at h2
    have hlt : t < vs.length := by
      rcases Nat.lt_or_ge t vs.length with h | h
      · exact h
      · rw [List.getElem?_eq_none h] at h2; cases h2
    rw [Array.getElem?_append_left (by simpa using hlt)]
    simpa using h2
  · have fin : ∀ l H', Ag fn.ntmps l a → HA w0 F H' w → (∃ v Hn is, (∀ a w, Ag fn.ntmps l a → HA w0 F H' w → (results fn a.tmps).run P w = .ok v w) ∧ sels H' is = some Hn ∧ R v Hn) →
        a.defers = [] ∧ ∃ v, (results fn a.tmps).run P w = .ok v w ∧ Post w0 F R (.returned v) w := by
      intro l H' ha hw' ⟨v, Hn, is, h1, h2, h3⟩
      exact ⟨ha.defers, v, h1 a w ha hw', v, Hn, rfl, h3, { hw' with chunks := sels_chunks h2 hw'.chunks }⟩
    cases e with
    | normal => exact fin l H' ha hw' hk
    | ret => exact fin l H' ha hw' hk
    | exit i => exact hk.elim
    | goto i => exact hk.elim
    | panic c => exact hk.elim
    | outgrown => exact hk.elim

section
variable {P : Program} {fn : Func} {n : Nat} {w0 : World} {F : Nat → Prop} {R : Value → List HP → Prop} {l : Env} {H Hn : List HP}
/-- a body that returns one slot, two, three, none. -/
theorem KR.one {t : Nat} {v : Value} (is : List Nat) (hr : fn.results = #[.tmp t]) (hv : lk l t = some v) (hs : sels H is = some Hn) (hR : R v Hn) : KR P fn n w0 F R .ret l H :=
  ⟨v, Hn, is, fun a w ha _ => by
    rw [results_tmp hr]
    have := ha.get t v hv
    simp [Array.getD_eq_getD_getElem?, this], hs, hR⟩

theorem KR.two {t t2 : Nat} {v v2 : Value} (is : List Nat) (hr : fn.results = #[.tmp t, .tmp t2]) (hv : lk l t = some v) (hv2 : lk l t2 = some v2) (hs : sels H is = some Hn) (hR : R (.tuple #[v, v2]) Hn) : KR P fn n w0 F R .ret l H :=
  ⟨_, Hn, is, fun a w ha _ => by
    rw [results_tmp2 hr]
    have h1 := ha.get t v hv
    have h2 := ha.get t2 v2 hv2
    simp [Array.getD_eq_getD_getElem?, h1, h2], hs, hR⟩

theorem results_tmp3' {t u v : Tmp} (h : fn.results = #[.tmp t, .tmp u, .tmp v]) (tmps : Array Value) (P : Program) (w : World) :
    (results fn tmps).run P w = .ok (.tuple #[tmps.getD t undef, tmps.getD u undef, tmps.getD v undef]) w := by simp [results, h]

theorem KR.three {t t2 t3 : Nat} {v v2 v3 : Value} (is : List Nat) (hr : fn.results = #[.tmp t, .tmp t2, .tmp t3]) (hv : lk l t = some v) (hv2 : lk l t2 = some v2) (hv3 : lk l t3 = some v3) (hs : sels H is = some Hn)
    (hR : R (.tuple #[v, v2, v3]) Hn) : KR P fn n w0 F R .ret l H :=
  ⟨_, Hn, is, fun a w ha _ => by
    rw [results_tmp3' hr]
    have h1 := ha.get t v hv
    have h2 := ha.get t2 v2 hv2
    have h3 := ha.get t3 v3 hv3
    simp [Array.getD_eq_getD_getElem?, h1, h2, h3], hs, hR⟩

theorem KR.zero (is : List Nat) (hr : fn.results = #[]) (hs : sels H is = some Hn) (hR : R (.tuple #[]) Hn) : KR P fn n w0 F R .normal l H ∧ KR P fn n w0 F R .ret l H :=
  have h : ∃ v Hn is, (∀ a w, Ag n l a → HA w0 F H w → (results fn a.tmps).run P w = .ok v w) ∧ sels H is = some Hn ∧ R v Hn :=
    ⟨_, Hn, is, fun _ _ _ _ => results_none hr _ _ _, hs, hR⟩
  ⟨h, h⟩

/-- any results: by a run. -/
theorem KR.run {v : Value} (is : List Nat) (hr : ∀ a w, Ag n l a → HA w0 F H w → (results fn a.tmps).run P w = .ok v w) (hs : sels H is = some Hn) (hR : R v Hn) : KR P fn n w0 F R .ret l H := ⟨v, Hn, is, hr, hs, hR⟩

/-! The ends of a piece of code, step by step. -/
variable {K : Kt} {i j : Nat} {y : Code} {f : Env → List HP → Prop}
theorem then_n (h : CW P n w0 F y K l H) : thenK K (CW P n w0 F y K) .normal l H := h
theorem then_nf (h : f l H) : thenK K f .normal l H := h
theorem then_x (h : K (.exit j) l H) : thenK K f (.exit j) l H := h
theorem then_ret (h : K .ret l H) : thenK K f .ret l H := h
theorem then_panic {c : List PanicEntry} (h : K (.panic c) l H) : thenK K f (.panic c) l H := h
theorem blk_n (h : K .normal l H) : blockK i K .normal l H := h
theorem blk_eq (h : K .normal l H) : blockK i K (.exit i) l H := by simp only [blockK, Nat.beq_refl, cond_true]; exact h
theorem blk_ne (hne : Nat.beq j i = false) (h : K (.exit j) l H) : blockK i K (.exit j) l H := by simp only [blockK, hne, cond_false]; exact h
theorem blk_ret (h : K .ret l H) : blockK i K .ret l H := h

theorem cov_nil : Cov l [] := trivial

/-- the first m chunks, and the others. -/
def spl : List HP → Nat → Option (List HP × List HP)
  | H, 0 => some ([], H)
  | [], _ + 1 => none
  | p :: r, m + 1 => match spl r m with
    | some (a, b) => some (p :: a, b)
    | none => none

theorem spl_eq : ∀ {m : Nat} {H a b : List HP}, spl H m = some (a, b) → H = a ++ b := by
  intro m
  induction m with
  | zero => intro H a b h; cases H <;> simp only [spl, Option.some.injEq, Prod.mk.injEq] at h <;> obtain ⟨rfl, rfl⟩ := h <;> rfl
  | succ m ih =>
    intro H a b h
    cases H with
    | nil => simp [spl] at h
    | cons p r =>
      unfold spl at h
      split at h
      · rename_i a' b' hs
        simp only [Option.some.injEq, Prod.mk.injEq] at h
        obtain ⟨rfl, rfl⟩ := h
        rw [ih hs]; rfl
      · cases h

/-- a loop: 'ks': the slots that it lets alone and that are wanted; 'mh': the first so many chunks may turn. -/
theorem CW.loopk {c : Code} (ks : List Nat) (mh : Nat) {keep : Env} {Hm Hk : List HP} (hk : pick l ks = some keep) (hh : spl H mh = some (Hm, Hk)) (I : Nat → Env → List HP → Prop) (m0 : Nat)
    (h0 : ∃ mods, Cov l mods ∧ I m0 mods Hm)
    (round : ∀ m mods Hm, I m mods Hm → CW P n w0 F c (thenK K (fun l H => ∃ m' mods' is Hm', m' < m ∧ Cov l (mods' ++ keep) ∧ E.sels H is = some (Hm' ++ Hk) ∧ I m' mods' Hm')) (mods ++ keep) (Hm ++ Hk)) :
    CW P n w0 F (.loop c) K l H := by
  have happ : ∀ (l a b : Env), Cov l a → Cov l b → Cov l (a ++ b) := by
    intro l a b ha hb
    induction a with
    | nil => exact hb
    | cons p r ih => exact ⟨ha.1, ih ha.2⟩
  have hH := spl_eq hh
  subst hH
  refine CW.loop (fun m l H => ∃ mods Hm, l = mods ++ keep ∧ H = Hm ++ Hk ∧ I m mods Hm) m0 ?_ ?_
  · obtain ⟨mods, hc, hI⟩ := h0
    exact ⟨mods ++ keep, happ _ _ _ hc (pick_cov hk), mods, Hm, rfl, rfl, hI⟩
  · rintro m _ _ ⟨mods, Hm', rfl, rfl, hI⟩
    refine CW.mono (round m mods Hm' hI) fun e l H h => ?_
    cases e with
    | normal =>
      obtain ⟨m', mods', is, Hm2, h1, h2, h3, h4⟩ := h
      exact ⟨m', mods' ++ keep, is, Hm2 ++ Hk, h1, h2, h3, mods', Hm2, rfl, rfl, h4⟩
    | exit i => exact h
    | goto i => exact h
    | ret => exact h
    | panic c => exact h
    | outgrown => exact h

/-- where ways meet: what stands behind is walked once. -/
theorem CW.cut {x : Code} (ks : List Nat) (mh : Nat) {keep : Env} {Hm Hk : List HP} (_hk : pick l ks = some keep) (_hh : spl H mh = some (Hm, Hk)) (I : Env → List HP → Prop)
    (hx : CW P n w0 F x (thenK K (fun l H => ∃ mods is Hm', Cov l (mods ++ keep) ∧ E.sels H is = some (Hm' ++ Hk) ∧ I mods Hm')) l H)
    (hy : ∀ mods Hm', I mods Hm' → CW P n w0 F y K (mods ++ keep) (Hm' ++ Hk)) : CW P n w0 F (.seq x y) K l H := by
  refine CW.seq (CW.mono hx fun e l H h => ?_)
  cases e with
  | normal =>
    obtain ⟨mods, is, Hm', h1, h2, h3⟩ := h
    exact CW.cov h1 (CW.sels is h2 (hy mods Hm' h3))
  | exit i => exact h
  | goto i => exact h
  | ret => exact h
  | panic c => exact h
  | outgrown => exact h
end

theorem Post.val {w0 : World} {F : Nat → Prop} {X : Value} {Y : List HP} {P : Program} {f : Nat} {args : Array Value} (h : Calls P f args w0 (Post w0 F fun v Hn => v = X ∧ Hn = Y)) : Calls P f args w0 (Post w0 F fun v _ => v = X) :=
  h.mono fun _ _ ⟨v, Hn, h1, h2, h3⟩ => ⟨v, Hn, h1, h2.1, h3⟩

theorem HA.start (w : World) : HA w (Old w) [] w := ⟨rfl, rfl, rfl, Nat.le_refl _, fun _ h => h, fun _ _ => rfl, trivial⟩
end E
end Go.Proofs.Yteibcphdbkgcgaa
