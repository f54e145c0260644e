/- Reading a config out of bytes: the plain parser, and laws for parts of slices and for bits. No program in sight. -/
import Derived.Test.YteibcphdbkgcgaaWr
namespace Go.Proofs.Yteibcphdbkgcgaa
set_option linter.unusedSimpArgs false
set_option linter.unusedVariables false
namespace Cf
open Go
/-! ### The parser -/
abbrev Bs := List UInt8
def n1 : Bs → Option (Nat × Bs)
  | [] => none
  | y :: r => some (y.toNat, r)
def tk (n : Nat) (s : Bs) : Option (Bs × Bs) := if n ≤ s.length then some (s.take n, s.drop n) else none
def is (l : Bs) : List Int := l.map fun y => (y.toNat : Int)
def ls (s : Bs) : Option (List Int × Bs) := (n1 s).bind fun x => (tk x.1 x.2).map fun y => (is y.1, y.2)
def nsP : Nat → Bs → Option (List Int × Bs)
  | 0, s => some ([], s)
  | n + 1, s => (nsP n s).bind fun x => (n1 x.2).map fun y => (x.1 ++ [(y.1 : Int)], y.2)
def tmP (s : Bs) : Option (T × Bs) := (ls s).bind fun h =>
  if h.1.length = 0 then some (⟨h.1, [], [], 0, 0, 0, 0, 0⟩, h.2) else
  (ls h.2).bind fun p => (ls p.2).bind fun d => (nsP 5 d.2).map fun x => (⟨h.1, p.1, d.1, x.1.getD 0 0, x.1.getD 1 0, x.1.getD 2 0, x.1.getD 3 0, x.1.getD 4 0⟩, x.2)
def tmsP : Nat → Bs → Option (List T × Bs)
  | 0, s => some ([], s)
  | n + 1, s => (tmsP n s).bind fun x => (tmP x.2).map fun y => (x.1 ++ [y.1], y.2)
def beval (l : Bs) : Int := l.foldl (fun a c => a * 256 + (c.toNat : Int)) 0
def cfP (s : Bs) : Option (C × Bs) := (n1 s).bind fun a => (n1 a.2).bind fun b => (tk (a.1 * b.1) b.2).bind fun l => (n1 l.2).bind fun k => (tk k.1 k.2).bind fun q => (n1 q.2).bind fun n => (tmsP n.1 n.2).bind fun ts => (tk 8 ts.2).map fun st =>
  (⟨a.1, b.1, l.1, q.1, ts.1, beval st.1⟩, st.2)
def dec (b : Bs) : C × Int := if 256 < b.length then (zero, 4) else match cfP b with
  | none => (zero, 10)
  | some x => if 0 < x.2.length then (zero, 11) else if check x.1 = 0 then (x.1, 0) else (zero, check x.1)

/-- what a reading step has done: from the bytes left (none: there were too few) to the bytes left. -/
def Res {α : Type} (p : Bs → Option (α × Bs)) (s : Option Bs) (x : α) (s' : Option Bs) : Prop := match s.bind p with
  | none => s' = none
  | some y => s' = some y.2 ∧ x = y.1
theorem beval_b : ∀ (l : Bs), 0 ≤ beval l ∧ beval l < 256 ^ l.length := by
  intro l
  have key : ∀ (l : Bs) (a : Int), 0 ≤ a → 0 ≤ l.foldl (fun a c => a * 256 + (c.toNat : Int)) a ∧ l.foldl (fun a c => a * 256 + (c.toNat : Int)) a < (a + 1) * 256 ^ l.length := by
    intro l
    induction l with
    | nil => intro a ha; simp; omega
    | cons y r ih =>
      intro a ha
      have hy := y.toNat_lt
      have := ih (a * 256 + (y.toNat : Int)) (by omega)
      refine ⟨this.1, Int.lt_of_lt_of_le this.2 ?_⟩
      rw [List.length_cons, Int.pow_succ, Int.mul_comm (256 ^ r.length) 256, ← Int.mul_assoc]
      exact Int.mul_le_mul_of_nonneg_right (by omega) (Int.pow_nonneg (by omega))
  have := key l 0 (by omega)
  simpa [beval] using this
theorem beval_take {l : Bs} {k : Nat} (h : k < l.length) : beval (l.take (k + 1)) = beval (l.take k) * 256 + ((l.getD k 0).toNat : Int) := by
  unfold beval
  rw [List.take_add_one, List.getElem?_eq_getElem h, Option.toList_some, List.foldl_append]
  simp [List.getD, h]
theorem tk_len {n : Nat} {s l r : Bs} (h : tk n s = some (l, r)) : l.length = n := by
  unfold tk at h
  split at h
  · simp only [Option.some.injEq, Prod.mk.injEq] at h
    rw [← h.1, List.length_take]; omega
  · cases h
theorem n1_take {s : Bs} : n1 s = (tk 1 s).map fun y => (((y.1.getD 0 0).toNat), y.2) := by
  cases s with
  | nil => rfl
  | cons y r => simp [n1, tk]
/-! ### The reader's state: a position and an error -/
def str (b : Bs) (p : Nat) (e : Int) : Option Bs := if e = 0 then some (b.drop p) else none
def numP (m : Nat) (s : Bs) : Option (Int × Bs) := (tk m s).map fun y => (beval y.1, y.2)
theorem str_bad {b : Bs} {p : Nat} {e : Int} (h : ¬ e = 0) : str b p e = none := if_neg h
theorem res_bad {α : Type} {f : Bs → Option (α × Bs)} {b : Bs} {p q : Nat} {e e2 : Int} {x : α} (h : ¬ e = 0) (h2 : ¬ e2 = 0) : Res f (str b p e) x (str b q e2) := by
  unfold Res; rw [str_bad h, str_bad h2]; rfl
theorem tk_drop {b : Bs} {p m : Nat} (h : p + m ≤ b.length) : tk m (b.drop p) = some ((b.drop p).take m, b.drop (p + m)) := by
  unfold tk; rw [if_pos (by rw [List.length_drop]; omega), List.drop_drop]
theorem tk_short {b : Bs} {p m : Nat} (h : b.length < p + m) (hp : p ≤ b.length) : tk m (b.drop p) = none := by
  unfold tk; rw [if_neg (by rw [List.length_drop]; omega)]
theorem res_tk {b : Bs} {p m : Nat} (h : p + m ≤ b.length) : Res (tk m) (str b p 0) ((b.drop p).take m) (str b (p + m) 0) := by
  unfold Res str; simp only [if_true, Option.bind_some, tk_drop h]; exact ⟨by first | trivial | rfl, by first | trivial | rfl⟩
theorem res_tks {b : Bs} {p m q : Nat} {x : Bs} (h : b.length < p + m) (hp : p ≤ b.length) : Res (tk m) (str b p 0) x (str b q 10) := by
  unfold Res str; simp only [if_true, Option.bind_some, tk_short h hp]; rfl
theorem res_num {b : Bs} {p m : Nat} (h : p + m ≤ b.length) : Res (numP m) (str b p 0) (beval ((b.drop p).take m)) (str b (p + m) 0) := by
  unfold Res str numP; simp only [if_true, Option.bind_some, tk_drop h, Option.map_some]; exact ⟨by first | trivial | rfl, by first | trivial | rfl⟩
theorem res_nums {b : Bs} {p m q : Nat} {x : Int} (h : b.length < p + m) (hp : p ≤ b.length) : Res (numP m) (str b p 0) x (str b q 10) := by
  unfold Res str numP; simp only [if_true, Option.bind_some, tk_short h hp, Option.map_none]; rfl
theorem beval_one (y : UInt8) : beval [y] = (y.toNat : Int) := by simp [beval]
theorem n1_num (s : Bs) : n1 s = (numP 1 s).map fun y => (y.1.toNat, y.2) := by
  cases s with
  | nil => rfl
  | cons y r => simp [n1, numP, tk, beval_one]
theorem res_n1 {s s' : Option Bs} {x : Int} (h : Res (numP 1) s x s') : Res n1 s x.toNat s' := by
  unfold Res at *
  cases s with
  | none => exact h
  | some s =>
    simp only [Option.bind_some] at *
    rw [n1_num]
    cases hn : numP 1 s with
    | none => rw [hn] at h; exact h
    | some y => rw [hn] at h; simp only [Option.map_some]; exact ⟨h.1, by rw [h.2]⟩
theorem res_none {α : Type} {f : Bs → Option (α × Bs)} {s' : Option Bs} {x : α} (h : Res f none x s') : s' = none := h
theorem res_map {α β : Type} {f : Bs → Option (α × Bs)} {g : α → β} {s s' : Option Bs} {x : α} (h : Res f s x s') : Res (fun s => (f s).map fun y => (g y.1, y.2)) s (g x) s' := by
  unfold Res at *
  cases s with
  | none => exact h
  | some s =>
    simp only [Option.bind_some] at *
    cases hf : f s with
    | none => rw [hf] at h; simpa [hf] using h
    | some y => rw [hf] at h; simp only [hf, Option.map_some]; exact ⟨h.1, by rw [h.2]⟩
/-- one step after another. -/
theorem res_bind {α β : Type} {f : Bs → Option (α × Bs)} {g : α → Bs → Option (β × Bs)} {s s' s2 : Option Bs} {x : α} {y : β} (h : Res f s x s') (h2 : Res (g x) s' y s2) : Res (fun s => (f s).bind fun z => g z.1 z.2) s y s2 := by
  unfold Res at *
  cases s with
  | none => simp only [Option.bind_none] at *; subst h; exact h2
  | some s =>
    simp only [Option.bind_some] at *
    cases hf : f s with
    | none => rw [hf] at h; simp only [hf, Option.bind_none]; simp only at h; subst h; exact h2
    | some z => rw [hf] at h; simp only [hf, Option.bind_some]; obtain ⟨h1, rfl⟩ := h; subst h1; exact h2
theorem pow_le {a b : Nat} (h : a ≤ b) : (256 : Int) ^ a ≤ 256 ^ b := by
  have h1 : (256 : Nat) ^ a ≤ 256 ^ b := Nat.pow_le_pow_right (by omega) h
  have e : ∀ k : Nat, (256 : Int) ^ k = ((256 ^ k : Nat) : Int) := fun k => by rw [Int.natCast_pow]; rfl
  rw [e, e]; omega
theorem beval_small {l : Bs} (h : l.length ≤ 7) : 0 ≤ beval l ∧ beval l < 72057594037927936 := by
  have hb := beval_b l
  have : (256 : Int) ^ l.length ≤ 256 ^ 7 := pow_le h
  exact ⟨hb.1, Int.lt_of_lt_of_le hb.2 (by simpa using this)⟩
theorem beval_u64 {l : Bs} (h : l.length ≤ 8) : 0 ≤ beval l ∧ beval l < 18446744073709551616 := by
  have hb := beval_b l
  have : (256 : Int) ^ l.length ≤ 256 ^ 8 := pow_le h
  exact ⟨hb.1, Int.lt_of_lt_of_le hb.2 (by simpa using this)⟩
theorem beval_nil : beval [] = 0 := rfl
theorem beval_byte {l : Bs} (h : l.length ≤ 1) : beval l < 256 := by
  have hb := beval_b l
  have : (256 : Int) ^ l.length ≤ 256 ^ 1 := pow_le h
  exact Int.lt_of_lt_of_le hb.2 (by simpa using this)
theorem res_congr {α : Type} {f g : Bs → Option (α × Bs)} {s s' : Option Bs} {x : α} (e : ∀ s, f s = g s) (h : Res f s x s') : Res g s x s' := by
  rw [show g = f from funext fun s => (e s).symm]; exact h
theorem res_ls {s s1 s2 : Option Bs} {x : Nat} {l : Bs} (h : Res n1 s x s1) (h2 : Res (tk x) s1 l s2) : Res ls s (is l) s2 :=
  res_congr (fun _ => rfl) (res_bind (g := fun (k : Nat) (s : Bs) => (tk k s).map fun (y : Bs × Bs) => (is y.1, y.2)) h (res_map (g := is) h2))
/-- a team, step by step. -/
theorem res_tm0 {s s1 : Option Bs} {h : List Int} (r : Res ls s h s1) (e : h.length = 0) : Res tmP s ⟨h, [], [], 0, 0, 0, 0, 0⟩ s1 := by
  unfold Res at *
  cases s with
  | none => exact r
  | some s =>
    simp only [Option.bind_some] at *
    unfold tmP
    cases hf : ls s with
    | none => rw [hf] at r; exact r
    | some z => rw [hf] at r; simp only [Option.bind_some]; obtain ⟨h1, rfl⟩ := r; rw [if_pos e]; exact ⟨h1, rfl⟩
theorem res_ns0 (s : Option Bs) : Res (nsP 0) s [] s := by
  unfold Res; cases s with
  | none => rfl
  | some s => exact ⟨rfl, rfl⟩
theorem res_ns {s s1 s2 : Option Bs} {k : Nat} {xs : List Int} {x : Nat} (r : Res (nsP k) s xs s1) (r2 : Res n1 s1 x s2) : Res (nsP (k + 1)) s (xs ++ [(x : Int)]) s2 :=
  res_congr (fun _ => rfl) (res_bind (g := fun (xs : List Int) (s : Bs) => (n1 s).map fun (y : Nat × Bs) => (xs ++ [(y.1 : Int)], y.2)) r (res_map (g := fun (x : Nat) => xs ++ [(x : Int)]) r2))
theorem res_tm1 {s s1 s2 s3 s4 : Option Bs} {h p d ns : List Int} (r : Res ls s h s1) (e : ¬ h.length = 0) (r2 : Res ls s1 p s2) (r3 : Res ls s2 d s3) (r4 : Res (nsP 5) s3 ns s4) :
    Res tmP s ⟨h, p, d, ns.getD 0 0, ns.getD 1 0, ns.getD 2 0, ns.getD 3 0, ns.getD 4 0⟩ s4 := by
  have r5 := res_map (g := fun (ns : List Int) => (⟨h, p, d, ns.getD 0 0, ns.getD 1 0, ns.getD 2 0, ns.getD 3 0, ns.getD 4 0⟩ : T)) r4
  have r6 := res_bind (g := fun (d : List Int) (s : Bs) => (nsP 5 s).map fun (x : List Int × Bs) => ((⟨h, p, d, x.1.getD 0 0, x.1.getD 1 0, x.1.getD 2 0, x.1.getD 3 0, x.1.getD 4 0⟩ : T), x.2)) r3 r5
  have r7 := res_bind (g := fun (p : List Int) (s : Bs) => (ls s).bind fun (d : List Int × Bs) => (nsP 5 d.2).map fun (x : List Int × Bs) => ((⟨h, p, d.1, x.1.getD 0 0, x.1.getD 1 0, x.1.getD 2 0, x.1.getD 3 0, x.1.getD 4 0⟩ : T), x.2)) r2 r6
  have r8 := res_bind (g := fun (h : List Int) (s : Bs) => if h.length = 0 then some ((⟨h, [], [], 0, 0, 0, 0, 0⟩ : T), s) else (ls s).bind fun (p : List Int × Bs) => (ls p.2).bind fun (d : List Int × Bs) => (nsP 5 d.2).map fun (x : List Int × Bs) => ((⟨h, p.1, d.1, x.1.getD 0 0, x.1.getD 1 0, x.1.getD 2 0, x.1.getD 3 0, x.1.getD 4 0⟩ : T), x.2)) r
    (res_congr (fun s => by simp only [if_neg e]) r7)
  exact res_congr (fun _ => rfl) r8
theorem res_tms {s s1 s2 : Option Bs} {n : Nat} {ts : List T} {t : T} (r : Res (tmsP n) s ts s1) (r2 : Res tmP s1 t s2) : Res (tmsP (n + 1)) s (ts ++ [t]) s2 :=
  res_congr (fun _ => rfl) (res_bind (g := fun (ts : List T) s => (tmP s).map fun y => (ts ++ [y.1], y.2)) r (res_map (g := fun t => ts ++ [t]) r2))
theorem res_tms_bad {n : Nat} {ts us : List T} {s : Option Bs} (r : Res (tmsP n) s ts none) : Res (tmsP (n + 1)) s us none := by
  have h := res_congr (g := tmsP (n + 1)) (fun _ => rfl) (res_bind (g := fun (ts : List T) s => (tmP s).map fun y => (ts ++ [y.1], y.2)) r (res_map (x := T.z) (g := fun t => ts ++ [t]) (s' := none) rfl))
  unfold Res at *
  cases s with
  | none => rfl
  | some s =>
    simp only [Option.bind_some] at *
    cases hf : tmsP (n + 1) s with
    | none => trivial
    | some z => rw [hf] at h; obtain ⟨h1, _⟩ := h; cases h1
theorem is_take {l : Bs} {k : Nat} (h : k < l.length) : is (l.take (k + 1)) = is (l.take k) ++ [((l.getD k 0).toNat : Int)] := by
  unfold is
  rw [List.take_add_one, List.getElem?_eq_getElem h, Option.toList_some, List.map_append]
  simp [List.getD, h]
theorem is_b {l : Bs} : ∀ n ∈ is l, 0 ≤ n ∧ n < 256 := fun n hn => by
  simp only [is, List.mem_map] at hn
  obtain ⟨y, _, rfl⟩ := hn
  have := y.toNat_lt
  omega
theorem res_tms0 (s : Option Bs) : Res (tmsP 0) s [] s := by
  unfold Res; cases s with
  | none => rfl
  | some s => exact ⟨rfl, rfl⟩
/-! ### What is read is small -/
def tiny (l : List Int) : Prop := l.length ≤ 255 ∧ ∀ n ∈ l, 0 ≤ n ∧ n < 256
theorem tiny_nil : tiny [] := ⟨by simp, fun n h => by cases h⟩
theorem tiny_i64s {l : List Int} (h : tiny l) : i64s l := fun n hn => by have := h.2 n hn; omega
theorem tiny_snoc {l : List Int} {x : Nat} (h : ∀ n ∈ l, 0 ≤ n ∧ n < 256) (hx : x < 256) : ∀ n ∈ l ++ [(x : Int)], 0 ≤ n ∧ n < 256 := fun n hn => by
  simp only [List.mem_append, List.mem_singleton] at hn
  rcases hn with h' | rfl
  · exact h n h'
  · omega
theorem fit_tiny {h p d : List Int} {a b c e f : Int} (h1 : tiny h) (h2 : tiny p) (h3 : tiny d) (h4 : ∀ n ∈ [a, b, c, e, f], 0 ≤ n ∧ n < 256) : T.fit ⟨h, p, d, a, b, c, e, f⟩ := by
  have k1 := h1.1
  have k2 := h2.1
  have k3 := h3.1
  have ha := h4 a (by simp)
  have hb := h4 b (by simp)
  have hc := h4 c (by simp)
  have he := h4 e (by simp)
  have hf := h4 f (by simp)
  exact ⟨by simp only; omega, by simp only; omega, by simp only; omega, tiny_i64s h1, tiny_i64s h2, tiny_i64s h3, by simp only [i64]; omega, by simp only [i64]; omega, by simp only [i64]; omega, by simp only [i64]; omega, by simp only [i64]; omega⟩
theorem fit_tiny0 {h : List Int} (h1 : tiny h) : T.fit ⟨h, [], [], 0, 0, 0, 0, 0⟩ := fit_tiny h1 tiny_nil tiny_nil (fun n hn => by simp at hn; omega)
theorem five {l : List Int} (h : l.length = 5) : ∃ a b c d e, l = [a, b, c, d, e] := by
  match l, h with
  | [a, b, c, d, e], _ => exact ⟨a, b, c, d, e, rfl⟩
theorem res_cf {s s1 s2 s3 s4 s5 s6 s7 s8 : Option Bs} {a b k n : Nat} {l q : Bs} {ts : List T} {st : Int} (r1 : Res n1 s a s1) (r2 : Res n1 s1 b s2) (r3 : Res (tk (a * b)) s2 l s3) (r4 : Res n1 s3 k s4)
    (r5 : Res (tk k) s4 q s5) (r6 : Res n1 s5 n s6) (r7 : Res (tmsP n) s6 ts s7) (r8 : Res (numP 8) s7 st s8) : Res cfP s ⟨a, b, l, q, ts, st⟩ s8 := by
  have g8 := res_map (g := fun (st : Int) => (⟨a, b, l, q, ts, st⟩ : C)) r8
  have g7 := res_bind (g := fun (ts : List T) (s : Bs) => (numP 8 s).map fun (y : Int × Bs) => ((⟨a, b, l, q, ts, y.1⟩ : C), y.2)) r7 g8
  have g6 := res_bind (g := fun (n : Nat) (s : Bs) => (tmsP n s).bind fun (z : List T × Bs) => (numP 8 z.2).map fun (y : Int × Bs) => ((⟨a, b, l, q, z.1, y.1⟩ : C), y.2)) r6 g7
  have g5 := res_bind (g := fun (q : Bs) (s : Bs) => (n1 s).bind fun (n : Nat × Bs) => (tmsP n.1 n.2).bind fun (z : List T × Bs) => (numP 8 z.2).map fun (y : Int × Bs) => ((⟨a, b, l, q, z.1, y.1⟩ : C), y.2)) r5 g6
  have g4 := res_bind (g := fun (k : Nat) (s : Bs) => (tk k s).bind fun (q : Bs × Bs) => (n1 q.2).bind fun (n : Nat × Bs) => (tmsP n.1 n.2).bind fun (z : List T × Bs) => (numP 8 z.2).map fun (y : Int × Bs) => ((⟨a, b, l, q.1, z.1, y.1⟩ : C), y.2)) r4 g5
  have g3 := res_bind (g := fun (l : Bs) (s : Bs) => (n1 s).bind fun (k : Nat × Bs) => (tk k.1 k.2).bind fun (q : Bs × Bs) => (n1 q.2).bind fun (n : Nat × Bs) => (tmsP n.1 n.2).bind fun (z : List T × Bs) => (numP 8 z.2).map fun (y : Int × Bs) => ((⟨a, b, l, q.1, z.1, y.1⟩ : C), y.2)) r3 g4
  have g2 := res_bind (g := fun (b : Nat) (s : Bs) => (tk (a * b) s).bind fun (l : Bs × Bs) => (n1 l.2).bind fun (k : Nat × Bs) => (tk k.1 k.2).bind fun (q : Bs × Bs) => (n1 q.2).bind fun (n : Nat × Bs) => (tmsP n.1 n.2).bind fun (z : List T × Bs) => (numP 8 z.2).map fun (y : Int × Bs) => ((⟨a, b, l.1, q.1, z.1, y.1⟩ : C), y.2)) r2 g3
  have g1 := res_bind (g := fun (a : Nat) (s : Bs) => (n1 s).bind fun (b : Nat × Bs) => (tk (a * b.1) b.2).bind fun (l : Bs × Bs) => (n1 l.2).bind fun (k : Nat × Bs) => (tk k.1 k.2).bind fun (q : Bs × Bs) => (n1 q.2).bind fun (n : Nat × Bs) => (tmsP n.1 n.2).bind fun (z : List T × Bs) => (numP 8 z.2).map fun (y : Int × Bs) => ((⟨a, b.1, l.1, q.1, z.1, y.1⟩ : C), y.2)) r1 g2
  refine res_congr (fun s => ?_) g1
  unfold cfP numP
  simp only [Option.map_map]
  rfl
theorem str0 (b : Bs) : str b 0 0 = some b := rfl
theorem dec_big {b : Bs} (h : 256 < b.length) : dec b = (zero, 4) := if_pos h
theorem dec_none {b : Bs} {x : C} {p : Nat} {e : Int} (h : b.length ≤ 256) (he : ¬ e = 0) (r : Res cfP (str b 0 0) x (str b p e)) : dec b = (zero, 10) := by
  rw [str0, str_bad he] at r
  unfold dec; rw [if_neg (by omega)]
  unfold Res at r
  simp only [Option.bind_some] at r
  cases hc : cfP b with
  | none => rfl
  | some y => rw [hc] at r; cases r.1
theorem dec_some {b : Bs} {x : C} {p : Nat} (r : Res cfP (str b 0 0) x (str b p 0)) : cfP b = some (x, b.drop p) := by
  rw [str0] at r
  unfold Res str at r
  simp only [Option.bind_some, if_true] at r
  cases hc : cfP b with
  | none => rw [hc] at r; cases r
  | some y => rw [hc] at r; obtain ⟨h1, h2⟩ := r; simp only [Option.some.injEq] at h1; rw [h1, h2]
theorem dec_more {b : Bs} {x : C} {p : Nat} (h : b.length ≤ 256) (r : Res cfP (str b 0 0) x (str b p 0)) (hp : p < b.length) : dec b = (zero, 11) := by
  unfold dec; rw [if_neg (by omega), dec_some r]
  simp only
  rw [if_pos (by rw [List.length_drop]; omega)]
theorem dec_bad {b : Bs} {x : C} {p : Nat} (h : b.length ≤ 256) (r : Res cfP (str b 0 0) x (str b p 0)) (hp : ¬ p < b.length) (hc : ¬ check x = 0) : dec b = (zero, check x) := by
  unfold dec; rw [if_neg (by omega), dec_some r]
  simp only
  rw [if_neg (by rw [List.length_drop]; omega), if_neg hc]
theorem dec_ok {b : Bs} {x : C} {p : Nat} (h : b.length ≤ 256) (r : Res cfP (str b 0 0) x (str b p 0)) (hp : ¬ p < b.length) (hc : check x = 0) : dec b = (x, 0) := by
  unfold dec; rw [if_neg (by omega), dec_some r]
  simp only
  rw [if_neg (by rw [List.length_drop]; omega), if_pos hc]
theorem fit_read {a b : Nat} {l q : Bs} {ts : List T} {st : Int} (ha : a < 256) (hb : b < 256) (hl : l.length ≤ 100000) (hq : q.length ≤ 100000) (ht : ts.length ≤ 100000) (hm : ∀ t ∈ ts, t.fit) (hs : 0 ≤ st ∧ st < 18446744073709551616) : C.fit ⟨a, b, l, q, ts, st⟩ :=
  ⟨by simp only [i64]; omega, by simp only [i64]; omega, by simp only; omega, by simp only; omega, by simp only; omega, hm, hs⟩
theorem fits_map {ts : List E.Tm} (h : ∀ m ∈ ts, m.q.fit) : ∀ t ∈ ts.map (·.q), t.fit := fun t ht => by
  obtain ⟨m, hm, rfl⟩ := List.mem_map.1 ht
  exact h m hm
theorem fits_snoc {ts : List E.Tm} {m : E.Tm} (h : ∀ m ∈ ts, m.q.fit) (hm : m.q.fit) : ∀ q ∈ ts ++ [m], q.q.fit := fun q hq => by
  simp only [List.mem_append, List.mem_singleton] at hq
  rcases hq with h' | rfl
  · exact h q h'
  · exact hm
/-! ### The specification's reader: what is left, and whether it was too short -/
def st2 (sh : Bool) (s : Bs) : Option Bs := if sh = true then none else some s
theorem st2_t (s : Bs) : st2 true s = none := rfl
theorem st2_f (s : Bs) : st2 false s = some s := rfl
theorem res_r0 {sh : Bool} {s : Bs} (h : s.length = 0) : Res n1 (st2 sh s) 0 (st2 true []) := by
  obtain rfl := List.length_eq_zero_iff.1 h
  cases sh <;> rfl
theorem res_r1 {sh : Bool} {s : Bs} (h : 0 < s.length) : Res n1 (st2 sh s) (s.getD 0 0).toNat (st2 sh (s.drop 1)) := by
  cases s with
  | nil => simp at h
  | cons y r => cases sh with
    | true => rfl
    | false => exact ⟨rfl, rfl⟩
theorem tk_succ (k : Nat) (s : Bs) : tk (k + 1) s = (tk k s).bind fun y => (n1 y.2).map fun z => (y.1 ++ [UInt8.ofNat z.1], z.2) := by
  unfold tk
  by_cases h : k ≤ s.length
  · rw [if_pos h]
    simp only [Option.bind_some]
    by_cases h2 : k + 1 ≤ s.length
    · rw [if_pos h2, List.drop_eq_getElem_cons (show k < s.length by omega)]
      simp only [n1, Option.map_some, UInt8.ofNat_toNat]
      rw [List.take_add_one, List.getElem?_eq_getElem (show k < s.length by omega)]
      rfl
    · rw [if_neg h2, List.drop_eq_nil_of_le (by omega)]
      rfl
  · rw [if_neg h, if_neg (by omega)]; rfl
theorem res_tk0 (s : Option Bs) : Res (tk 0) s [] s := by
  unfold Res; cases s with
  | none => rfl
  | some s => exact ⟨rfl, rfl⟩
theorem res_tk1 {k : Nat} {s s1 s2 : Option Bs} {l : Bs} {x : Nat} (r : Res (tk k) s l s1) (r2 : Res n1 s1 x s2) : Res (tk (k + 1)) s (l ++ [UInt8.ofNat x]) s2 :=
  res_congr (fun s => (tk_succ k s).symm) (res_bind (g := fun (l : Bs) (s : Bs) => (n1 s).map fun (y : Nat × Bs) => (l ++ [UInt8.ofNat y.1], y.2)) r (res_map (g := fun (x : Nat) => l ++ [UInt8.ofNat x]) r2))
theorem res_tk_bad {k n : Nat} {s : Option Bs} {l : Bs} (r : Res (tk k) s l none) (h : k ≤ n) (l2 : Bs) : Res (tk n) s l2 none := by
  unfold Res at *
  cases s with
  | none => rfl
  | some s =>
    simp only [Option.bind_some] at *
    have hk : tk k s = none := by
      cases hc : tk k s with
      | none => rfl
      | some y => rw [hc] at r; cases r.1
    have : tk n s = none := by
      unfold tk at *
      split at hk
      · cases hk
      · rw [if_neg (by omega)]
    rw [this]
    trivial
theorem res_end {k n : Nat} {sh : Bool} {s : Option Bs} {l s2 : Bs} (r : Res (tk k) s l (st2 sh s2)) (h : k ≤ n) (e : ¬ (k : Int) < n ∨ sh = true) : Res (tk n) s l (st2 sh s2) := by
  rcases e with e | rfl
  · obtain rfl : k = n := by omega
    exact r
  · exact res_tk_bad r h l
theorem res_tms_badn {k n : Nat} {s : Option Bs} {l : List T} (r : Res (tmsP k) s l none) (h : k ≤ n) : Res (tmsP n) s l none := by
  induction n with
  | zero => obtain rfl : k = 0 := by omega
            exact r
  | succ n ih =>
    rcases Nat.lt_or_ge n k with h' | h'
    · obtain rfl : k = n + 1 := by omega
      exact r
    · exact res_tms_bad (ih h')
theorem res_tms_end {k n : Nat} {sh : Bool} {s : Option Bs} {l : List T} {s2 : Bs} (r : Res (tmsP k) s l (st2 sh s2)) (h : k ≤ n) (e : ¬ (k : Int) < n ∨ sh = true) : Res (tmsP n) s l (st2 sh s2) := by
  rcases e with e | rfl
  · obtain rfl : k = n := by omega
    exact r
  · exact res_tms_badn r h
theorem ofNat_u8 {x : Nat} (h : x < 256) : (x : Int) = ((UInt8.ofNat x).toNat : Int) := by
  rw [UInt8.toNat_ofNat']; omega
theorem wrap_ofNat (x : Nat) : IntKind.u8.wrap (x : Int) = ((UInt8.ofNat x).toNat : Int) := by
  rw [IntKind.wrap_u8, UInt8.toNat_ofNat']
  omega
theorem tk_res {sh : Bool} {s l s2 : Bs} {n : Nat} (r : Res (tk n) (some s) l (st2 false s2)) : l.length = n := by
  unfold Res at r
  simp only [Option.bind_some] at r
  cases hc : tk n s with
  | none => rw [hc] at r; cases r
  | some y => rw [hc] at r; obtain ⟨_, h2⟩ := r; rw [h2]; exact tk_len hc
theorem tk_len8 {x : Option Bs} {l s2 : Bs} (r : Res (tk 8) x l (st2 false s2)) : l.length = 8 := by
  cases x with
  | none => cases r
  | some s => exact tk_res (sh := false) r
theorem tiny5 {a b c d e : Nat} (h1 : a < 256) (h2 : b < 256) (h3 : c < 256) (h4 : d < 256) (h5 : e < 256) : ∀ n ∈ [(a : Int), (b : Int), (c : Int), (d : Int), (e : Int)], 0 ≤ n ∧ n < 256 := fun n hn => by
  simp only [List.mem_cons, List.not_mem_nil, or_false] at hn
  omega
theorem res_num8 {s s' : Option Bs} {l : Bs} (r : Res (tk 8) s l s') : Res (numP 8) s (beval l) s' := res_congr (fun _ => rfl) (res_map (g := beval) r)
theorem dec_none' {b : Bs} {x : C} {s2 : Bs} (h : b.length ≤ 256) (r : Res cfP (some b) x (st2 true s2)) : dec b = (zero, 10) := by
  unfold dec; rw [if_neg (by omega)]
  unfold Res at r
  simp only [Option.bind_some] at r
  cases hc : cfP b with
  | none => rfl
  | some y => rw [hc] at r; cases r.1
theorem dec_some' {b : Bs} {x : C} {s2 : Bs} (r : Res cfP (some b) x (st2 false s2)) : cfP b = some (x, s2) := by
  unfold Res st2 at r
  simp only [Option.bind_some] at r
  cases hc : cfP b with
  | none => rw [hc] at r; cases r
  | some y => rw [hc] at r; obtain ⟨h1, h2⟩ := r; simp at h1; rw [h1, h2]
theorem dec_more' {b : Bs} {x : C} {s2 : Bs} (h : b.length ≤ 256) (r : Res cfP (some b) x (st2 false s2)) (hp : 0 < s2.length) : dec b = (zero, 11) := by
  unfold dec; rw [if_neg (by omega), dec_some' r]
  simp only
  rw [if_pos hp]
theorem dec_bad' {b : Bs} {x : C} {s2 : Bs} (h : b.length ≤ 256) (r : Res cfP (some b) x (st2 false s2)) (hp : ¬ 0 < s2.length) (hc : ¬ check x = 0) : dec b = (zero, check x) := by
  unfold dec; rw [if_neg (by omega), dec_some' r]
  simp only
  rw [if_neg hp, if_neg hc]
theorem dec_ok' {b : Bs} {x : C} {s2 : Bs} (h : b.length ≤ 256) (r : Res cfP (some b) x (st2 false s2)) (hp : ¬ 0 < s2.length) (hc : check x = 0) : dec b = (x, 0) := by
  unfold dec; rw [if_neg (by omega), dec_some' r]
  simp only
  rw [if_neg hp, if_pos hc]
end Cf
namespace E
open Go Go.RowKit
section
variable {P : Program} {n : Nat} {w0 : World} {F : Nat → Prop} {K : Kt} {l : Env} {H : List HP} {o : Oper}
def subA (A : Option Addr) (c k : Nat) : Option Addr := if c = k then A else A.map (·.add (k * 1))
theorem PV.subs {t Et bytes m c lo hi : Nat} {x y q : Operand} {z : Value} {A : Option Addr} (hT : P.underlying t = some (.slice Et)) (hI : In P Et z 1 bytes) (ho : o.op = .slice t x (some y) (some q) none) (hx : ev l x = some (.slice A m c)) (hy : ev l y = some (.int .i64 (lo : Int)))
    (hq : ev l q = some (.int .i64 (hi : Int))) (h1 : lo ≤ hi) (h2 : hi ≤ c) : PV P n w0 F l H o (.slice (subA A c lo) (hi - lo) (c - lo)) := fun a w ha _ => by
  obtain ⟨inf, hinf, hz0, hz1, hz2⟩ := hI.parts
  have hel : P.elem t = Et := by simp [Program.elem, hT]
  have hT' : P.underlying t = some (.slice (P.elem t)) := by rw [hel]; exact hT
  have hr := run_slice_lh (P := P) w t A m c hT' .i64 .i64 (lo : Int) (hi : Int) (by omega) (by omega) (by omega)
  rw [hel] at hr
  have hsa := run_sliceAt_slice (P := P) w t (.slice A m c) (some (.int .i64 (lo : Int))) (some (.int .i64 (hi : Int))) none hT'
  simp [execOp, ho, ha.ev hx, ha.ev hy, ha.ev hq, hsa, hr, sizeOf, typeInfo, hinf, hz1, Result.andThen, sliced, subA]
theorem PV.sub1 {t Et bytes m c lo : Nat} {x y : Operand} {z : Value} {A : Option Addr} (hT : P.underlying t = some (.slice Et)) (hI : In P Et z 1 bytes) (ho : o.op = .slice t x (some y) none none) (hx : ev l x = some (.slice A m c)) (hy : ev l y = some (.int .i64 (lo : Int)))
    (h1 : lo ≤ m) : PV P n w0 F l H o (.slice (subA A c lo) (m - lo) (c - lo)) := fun a w ha _ => by
  obtain ⟨inf, hinf, hz0, hz1, hz2⟩ := hI.parts
  have hel : P.elem t = Et := by simp [Program.elem, hT]
  have hT' : P.underlying t = some (.slice (P.elem t)) := by rw [hel]; exact hT
  have hr := run_slice_l (P := P) w t A m c hT' .i64 (lo : Int) (by omega) (by omega)
  rw [hel] at hr
  have hsa := run_sliceAt_slice (P := P) w t (.slice A m c) (some (.int .i64 (lo : Int))) none none hT'
  simp [execOp, ho, ha.ev hx, ha.ev hy, hsa, hr, sizeOf, typeInfo, hinf, hz1, Result.andThen, sliced, subA]
theorem rd_sub {w : World} {G : Nat → Prop} {A : Option Addr} {c k m : Nat} {b : List UInt8} (hr : Rd w G A (u8s b)) (h : k + m ≤ b.length) (hc : b.length ≤ c) : Rd w G (subA A c k) (u8s ((b.drop k).take m)) := fun hx => by
  have hm : 0 < m := by
    rcases Nat.eq_zero_or_pos m with e | e
    · subst e; simp at hx
    · exact e
  obtain ⟨ad, rfl, hg, hcl⟩ := hr (by simp; omega)
  refine ⟨ad.add (k * 1), by simp [subA]; intro e; omega, by rw [Addr.add_block]; exact hg, fun j u hu => ?_⟩
  rw [Addr.add_add']
  refine hcl _ u ?_
  simp only [u8s, List.getElem?_map, List.getElem?_take, List.getElem?_drop, Nat.mul_one] at hu ⊢
  split at hu
  · exact hu
  · simp at hu
/-- where one slice can be read, so can the other. -/
def Sb (A : Option Addr) (s : List UInt8) (A2 : Option Addr) (s2 : List UInt8) : Prop := ∀ w G, Rd w G A (u8s s) → Rd w G A2 (u8s s2)
theorem Sb.refl (A : Option Addr) (s : List UInt8) : Sb A s A s := fun _ _ h => h
theorem Sb.trans {A A2 A3 : Option Addr} {s s2 s3 : List UInt8} (h : Sb A s A2 s2) (h2 : Sb A2 s2 A3 s3) : Sb A s A3 s3 := fun w G hr => h2 w G (h w G hr)
theorem Sb.nil (A A2 : Option Addr) (s : List UInt8) : Sb A s A2 [] := fun _ _ _ hx => by simp at hx
theorem Sb.drop {A : Option Addr} {c k : Nat} {s : List UInt8} (h : k ≤ s.length) (hc : s.length ≤ c) : Sb A s (subA A c k) (s.drop k) := fun w G hr => by
  have := rd_sub (k := k) (m := s.length - k) hr (by omega) hc
  rwa [List.take_of_length_le (by rw [List.length_drop]; omega)] at this
theorem HA.rowcap {w : World} (h : HA w0 F H w) {i Et sz m c : Nat} {A : Option Addr} {xs : List Value} {H' : List HP} (hi : E.sel H i = some (HP.row Et sz A m c xs, H')) : m ≤ c := by
  rcases (h.row hi).2 with ⟨hv, hm⟩ | ⟨g, cap, cur, hv, _, _, hnc, _⟩
  · subst hm; omega
  · injection hv with _ _ hc; omega
theorem PV.shl {t t' : TypeId} {x y : Operand} {k yk : IntKind} {p q : Int} (ho : o.op = .binOp .shl t x y t') (hx : ev l x = some (.int k p)) (hy : ev l y = some (.int yk q)) (hq : 0 ≤ q) : PV P n w0 F l H o (.int k (k.wrap (p * 2 ^ min q.toNat k.bits))) :=
  PV.bin ho hx hy eg_int fun w => by
    rw [show binOp .shl t (.int k p) (.int yk q) = Op.shift .shl k p yk q from by simp [binOp]]
    simp [Op.shift, show ¬ q < 0 by omega]
/-- eight bits more: the byte that is or-ed in is added. -/
theorem PV.or8 {t t' : TypeId} {x y : Operand} {p : Int} {q : Nat} (hp : 0 ≤ p ∧ p * 256 + 256 ≤ 18446744073709551616) (hq : q < 256) (ho : o.op = .binOp .or t x y t') (hx : ev l x = some (.int .u64 (p * 256))) (hy : ev l y = some (.int .u64 (q : Int))) : PV P n w0 F l H o (.int .u64 (p * 256 + (q : Int))) :=
  PV.bin ho hx hy eg_int fun w => by
    obtain ⟨m, rfl⟩ := Int.eq_ofNat_of_zero_le hp.1
    have e1 : ((m : Int) * 256) = ((m * 256 : Nat) : Int) := by omega
    have hm : m * 256 < 18446744073709551616 := by omega
    have hor : m * 256 ||| q = m * 256 + q := by
      have := Nat.shiftLeft_add_eq_or_of_lt (b := q) (i := 8) (by omega) m
      rw [Nat.shiftLeft_eq] at this
      exact this.symm
    rw [show binOp .or t (.int .u64 ((m : Int) * 256)) (.int .u64 (q : Int)) = Op.intBits .or .u64 ((m : Int) * 256) (q : Int) from by simp [binOp], e1]
    simp only [Op.intBits]
    have hb : (BitVec.ofInt IntKind.u64.bits ((m * 256 : Nat) : Int) ||| BitVec.ofInt IntKind.u64.bits (q : Int)).toNat = m * 256 + q := by
      rw [BitVec.toNat_or, BitVec.ofInt_natCast, BitVec.ofInt_natCast, BitVec.toNat_ofNat, BitVec.toNat_ofNat, show IntKind.u64.bits = 64 from rfl, Nat.mod_eq_of_lt (by omega), Nat.mod_eq_of_lt (by omega), hor]
    rw [hb]
    have : IntKind.u64.wrap ((m * 256 + q : Nat) : Int) = ((m * 256 + q : Nat) : Int) := by rw [IntKind.wrap_u64]; omega
    rw [this]
    simp
/-- a number stored behind some cells. -/
theorem wr_tail {a : List Value} {ns : List Int} {k : Nat} {x : Int} (hk : k < ns.length) : wr (a ++ ints ns) (a.length + k) [.int .i64 x] = some (a ++ ints (ns.set k x)) := by
  rw [wr_set _ _ _ (by rw [List.length_append, ints_length]; omega), List.set_append_right _ _ (by omega), Nat.add_sub_cancel_left]
  simp [ints, List.map_set]
theorem OW.store_tail {ops : Array Oper} {rest : List Oper} {t : TypeId} {x y : Operand} {B T i k j : Nat} {a : List Value} {ns : List Int} {v : Int} {H' : List HP} (hsz : ∀ w, (sizeOf t).run P w = .ok 1 w) (ho : o.op = .store t x y)
    (hg : gd ops l o.guard = some true) (hd : o.dst = none) (hx : ev l x = some (.pointer (some ⟨B, j, .none⟩))) (hy : ev l y = some (.int .i64 v)) (hj : j = a.length + k) (hk : k < ns.length)
    (hi : sel H i = some (HP.blk B T (a ++ ints ns), H')) (k' : OW P n w0 F ops K rest l (HP.blk B T (a ++ ints (ns.set k v)) :: H')) : OW P n w0 F ops K (o :: rest) l H := by
  subst hj
  exact OW.store (vs := [.int .i64 v]) hsz ho hg hd hx hy rfl rfl hi (wr_tail hk) k'
def ptrs (B k m : Nat) : List Value := (List.range m).map fun i => .pointer (some ⟨B, k + i, .none⟩)
@[simp] theorem ptrs_length (B k m : Nat) : (ptrs B k m).length = m := by simp [ptrs]
theorem PV.load_ptr {t : TypeId} {x : Operand} {A : Option Addr} {B k m i : Nat} (hR : ∀ w, HA w0 F H w → Rd w (Old w) A (ptrs B k m)) (ht : Na P t) (ho : o.op = .load t x) (hx : ev l x = some (eptr A i)) (hi : i < m) :
    PV P n w0 F l H o (.pointer (some ⟨B, k + i, .none⟩)) := PV.load_of hR ht ho hx (by simp [ptrs, hi])
theorem set_tail {xs : List Int} {k : Nat} {x : Int} (hl : xs.length = k) (hk : k < 5) : (xs ++ List.replicate (5 - k) 0).set k x = (xs ++ [x]) ++ List.replicate (5 - (k + 1)) 0 := by
  subst hl
  rw [List.set_append_right _ _ (Nat.le_refl _), Nat.sub_self, show 5 - xs.length = (5 - (xs.length + 1)) + 1 by omega, List.replicate_succ, List.set_cons_zero, List.append_assoc]
  rfl
theorem run_callf {P : Program} {o : Oper} {a : Act} {w : World} {f : Nat} {fo : Operand} {xs : List Operand} {ts : Array TypeId} {us vs : List Value} (hf : Nm P f)
    (hfo : a.eval fo = .func (.func f) us.toArray #[]) (ho : o.op = .call { callee := .value fo, args := xs.toArray, argTypes := ts }) (hx : xs.map a.eval = vs) :
    (execOp a.eval o).run P w = .ok (.enter f (us ++ vs).toArray) w := by
  obtain ⟨fn, h1, h2, h3⟩ := hf
  have hb : fn.body ≠ none := by intro h; rw [h] at h2; cases h2
  have hn : fn.name ≠ "runtime.NumGoroutine" := by simpa using h3
  simp [execOp, ho, resolve, Deferred.ofValue, invoke, callFunc, program, Sem.run, h1, hn, hb, hfo, hx]
/-- a call of a function value that holds its first arguments, and that may turn the chunk i. -/
theorem OW.callMF {ops : Array Oper} {rest : List Oper} {d : Nat} {f : Nat} {fo : Operand} {xs : List Operand} {ts : Array TypeId} {us vs : List Value} (hf : Nm P f)
    (hg : gd ops l o.guard = some true) (hd : o.dst = some d) (hn : Nat.blt d n = true) (ho : o.op = .call { callee := .value fo, args := xs.toArray, argTypes := ts })
    (hfo : ev l fo = some (.func (.func f) us.toArray #[])) (hx : evs l xs = some vs) (R : Value → List HP → Prop) (i : Nat) {p : HP} {H' : List HP} (hi : E.sel H i = some (p, H'))
    (h : ∀ w S, HA w0 F (p :: H') w → p.sem S w → (∀ k, S k → k < w.heap.size ∧ ¬ F k) → Chunks w (fun k => F k ∨ S k) H' → Calls P f (us ++ vs).toArray w (Post w (fun k => k < w.heap.size ∧ ¬ S k) R))
    (k : ∀ v Hn, R v Hn → OW P n w0 F ops K rest ((d, v) :: l) (Hn ++ H')) : OW P n w0 F ops K (o :: rest) l H := fun a w ha hw => by
  refine wpList_step fun K' hK' => ?_
  rw [if_pos (ha.wanted hg)]
  unfold Oper.wp
  rw [run_callf hf (ha.ev hfo) ho (ha.evs hx), Oper.upon_enter]
  have hw1 := hw.perm (sel_perm hi)
  obtain ⟨S, h1, h2, h3⟩ := hw1.chunks
  refine (h w S hw1 h1 h2 h3).mono fun e w' ⟨v, Hn, he, hR, hw'⟩ => ?_
  subst he
  rw [hd]
  refine hK' _ _ (k v Hn hR _ _ (ha.put hn v) ?_)
  have hF : ∀ k, F k → k < w.heap.size ∧ ¬ S k := fun k hf => ⟨Nat.lt_of_lt_of_le (hw.flt k hf) hw.size, fun hs => (h2 k hs).2 hf⟩
  refine ⟨hw'.os.trans hw.os, hw'.tape.trans hw.tape, hw'.output.trans hw.output, Nat.le_trans hw.size hw'.size, hw.flt, fun k hf => (hw'.kept k (hF k hf)).trans (hw.kept k hf), ?_⟩
  refine Chunks.app (G := fun k => k < w.heap.size ∧ ¬ S k) ?_ ?_
  · exact hw'.chunks.congr fun k => ⟨.inr, fun hk' => hk'.elim (hF k) id⟩
  · exact ChunksB.of (w := w) hw'.size (fun k hk' => hw'.kept k hk') (U := fun k => F k ∨ S k) (fun k hlt hn => ⟨hlt, fun hs => hn (.inr hs)⟩) (fun k hf => .inl hf) h3
theorem OW.tmsnoc {ops : Array Oper} {rest : List Oper} {H1 : List HP} {m : Tm} {ts : List Tm} (i j : Nat) {H2 : List HP} (hi : sel H i = some (HP.tm m, H1)) (hj : sel H1 j = some (HP.tms ts, H2)) (k : OW P n w0 F ops K rest l (HP.tms (ts ++ [m]) :: H2)) : OW P n w0 F ops K rest l H := fun a w ha hw => by
  have h1 := hw.perm ((sel_perm hi).trans ((sel_perm hj).cons _))
  refine k a w ha { h1 with chunks := ?_ }
  have h2 := Chunks.bag_in h1.chunks
  refine Chunks.bag_perm ?_ h2
  simp only [List.map_append, List.map_cons, List.map_nil]
  exact (List.perm_append_comm (l₁ := [HP.tm m]) (l₂ := ts.map HP.tm))
end
end E
end Go.Proofs.Yteibcphdbkgcgaa
