/- Encoding and decoding are inverse, plainly. No program in sight. -/
import Derived.Test.YteibcphdbkgcgaaCh
namespace Go.Proofs.Yteibcphdbkgcgaa
set_option linter.unusedSimpArgs false
set_option linter.unusedVariables false
namespace Cf
open Go
/-- a parser reads x out of e, whatever follows, and too few bytes out of each proper beginning of e. -/
def Rds {α : Type} (p : Bs → Option (α × Bs)) (x : α) (e : Bs) : Prop := (∀ r, p (e ++ r) = some (x, r)) ∧ ∀ n, n < e.length → p (e.take n) = none
theorem rds_bind {α β : Type} {p : Bs → Option (α × Bs)} {q : α → Bs → Option (β × Bs)} {x : α} {y : β} {e e2 : Bs} (h : Rds p x e) (h2 : Rds (q x) y e2) : Rds (fun s => (p s).bind fun z => q z.1 z.2) y (e ++ e2) := by
  refine ⟨fun r => ?_, fun n hn => ?_⟩
  · show ((p (e ++ e2 ++ r)).bind fun z => q z.1 z.2) = _
    rw [List.append_assoc, h.1]; exact h2.1 r
  · show ((p ((e ++ e2).take n)).bind fun z => q z.1 z.2) = none
    rcases Nat.lt_or_ge n e.length with hl | hl
    · rw [List.take_append_of_le_length (by omega), h.2 n hl]; rfl
    · rw [List.take_append, List.take_of_length_le (by omega), h.1]
      exact h2.2 _ (by rw [List.length_append] at hn; omega)
theorem rds_map {α β : Type} {p : Bs → Option (α × Bs)} {f : α → β} {x : α} {e : Bs} (h : Rds p x e) : Rds (fun s => (p s).map fun z => (f z.1, z.2)) (f x) e :=
  ⟨fun r => by show ((p (e ++ r)).map fun z => (f z.1, z.2)) = _; rw [h.1]; rfl, fun n hn => by show ((p (e.take n)).map fun z => (f z.1, z.2)) = none; rw [h.2 n hn]; rfl⟩
theorem rds_congr {α : Type} {p q : Bs → Option (α × Bs)} {x : α} {e : Bs} (hp : ∀ s, p s = q s) (h : Rds p x e) : Rds q x e := by
  rw [show q = p from funext fun s => (hp s).symm]; exact h
theorem rds_n1 (v : UInt8) : Rds n1 v.toNat [v] := ⟨fun r => rfl, fun n hn => by
  have : n = 0 := by simpa using hn
  subst this; rfl⟩
theorem rds_tk (l : Bs) : Rds (tk l.length) l l := ⟨fun r => by
  unfold tk
  rw [if_pos (by rw [List.length_append]; omega), List.take_left, List.drop_left], fun n hn => by
  unfold tk
  rw [if_neg (by rw [List.length_take]; omega)]⟩
def bytes (l : List Int) : Prop := l.length < 256 ∧ ∀ n ∈ l, 0 ≤ n ∧ n < 256
theorem is_byt {l : List Int} (h : ∀ n ∈ l, 0 ≤ n ∧ n < 256) : is (l.map byt) = l := by
  unfold is
  rw [List.map_map]
  conv => rhs; rw [← List.map_id l]
  exact List.map_congr_left fun n hn => (byt_small (h n hn)).symm
theorem byt_len {n : Nat} (h : n < 256) : (byt (n : Int)).toNat = n := by have := byt_small (n := (n : Int)) (by omega); omega
theorem rds_ls {l : List Int} (h : bytes l) : Rds ls l (encL l) := by
  have h1 := rds_n1 (byt (l.length : Int))
  rw [byt_len h.1] at h1
  have h2 := rds_map (f := is) (rds_tk (l.map byt))
  rw [List.length_map, is_byt h.2] at h2
  exact rds_congr (fun _ => rfl) (rds_bind (q := fun (k : Nat) (s : Bs) => (tk k s).map fun (y : Bs × Bs) => (is y.1, y.2)) h1 h2)
theorem rds_ns : ∀ {l : List Int}, (∀ n ∈ l, 0 ≤ n ∧ n < 256) → ∀ k, k ≤ l.length → Rds (nsP k) (l.take k) ((l.take k).map byt) := by
  intro l h k
  induction k with
  | zero => intro _; exact ⟨fun r => rfl, fun n hn => by simp at hn⟩
  | succ k ih =>
    intro hk
    have hb := h _ (Fl.getD_mem' (show k < l.length by omega))
    have h1 := rds_n1 (byt (l.getD k 0))
    have hx := byt_small hb
    have e1 : l.take (k + 1) = l.take k ++ [l.getD k 0] := by rw [List.take_add_one, List.getElem?_eq_getElem (show k < l.length by omega)]; simp [List.getD, show k < l.length by omega]
    have h2 := rds_map (f := fun (y : Nat) => l.take k ++ [(y : Int)]) h1
    rw [← hx] at h2
    rw [e1, List.map_append]
    exact rds_congr (fun _ => rfl) (rds_bind (q := fun (x : List Int) (s : Bs) => (n1 s).map fun (y : Nat × Bs) => (x ++ [(y.1 : Int)], y.2)) (ih (by omega)) h2)
/-- what the encoding of a team can tell: its lists and numbers are bytes, and who has no homes has nothing. -/
def codable (t : T) : Prop := bytes t.h ∧ bytes t.p ∧ bytes t.d ∧ (∀ n ∈ nums t, 0 ≤ n ∧ n < 256) ∧ (t.h.length = 0 → t = T.z)
def tmQ (h : List Int) (s : Bs) : Option (T × Bs) := if h.length = 0 then some (⟨h, [], [], 0, 0, 0, 0, 0⟩, s) else (ls s).bind fun p => (ls p.2).bind fun d => (nsP 5 d.2).map fun x => (⟨h, p.1, d.1, x.1.getD 0 0, x.1.getD 1 0, x.1.getD 2 0, x.1.getD 3 0, x.1.getD 4 0⟩, x.2)
theorem rds_tm {t : T} (h : codable t) : Rds tmP t (encT t) := by
  obtain ⟨h1, h2, h3, h4, h5⟩ := h
  have r1 := rds_ls h1
  by_cases h0 : t.h.length = 0
  · have ht := h5 h0
    subst ht
    have e : encT T.z = encL T.z.h := by unfold encT; rw [if_pos h0, List.append_nil]
    rw [e]
    refine ⟨fun r => ?_, fun n hn => ?_⟩
    · unfold tmP; rw [r1.1]; rfl
    · unfold tmP; rw [r1.2 n hn]; rfl
  · have e : encT t = encL t.h ++ (encL t.p ++ (encL t.d ++ (nums t).map byt)) := by unfold encT; rw [if_neg h0]; simp only [List.append_assoc]
    rw [e]
    have r4 := rds_ns h4 5 (Nat.le_refl _)
    rw [show (nums t).take 5 = nums t from rfl] at r4
    have r4' := rds_map (f := fun (x : List Int) => (⟨t.h, t.p, t.d, x.getD 0 0, x.getD 1 0, x.getD 2 0, x.getD 3 0, x.getD 4 0⟩ : T)) r4
    have r3 := rds_bind (q := fun (d : List Int) (s : Bs) => (nsP 5 s).map fun x => ((⟨t.h, t.p, d, x.1.getD 0 0, x.1.getD 1 0, x.1.getD 2 0, x.1.getD 3 0, x.1.getD 4 0⟩ : T), x.2)) (rds_ls h3) r4'
    have r2 := rds_bind (q := fun (p : List Int) (s : Bs) => (ls s).bind fun d => (nsP 5 d.2).map fun x => ((⟨t.h, p, d.1, x.1.getD 0 0, x.1.getD 1 0, x.1.getD 2 0, x.1.getD 3 0, x.1.getD 4 0⟩ : T), x.2)) (rds_ls h2) r3
    have r2' : Rds (tmQ t.h) t (encL t.p ++ (encL t.d ++ (nums t).map byt)) := rds_congr (fun s => by unfold tmQ; rw [if_neg h0]) r2
    have r0 := rds_bind (q := tmQ) r1 r2'
    exact rds_congr (fun _ => rfl) r0
theorem rds_tms {ts : List T} (h : ∀ t ∈ ts, codable t) : ∀ k, k ≤ ts.length → Rds (tmsP k) (ts.take k) (encTs ts k) := by
  intro k
  induction k with
  | zero => intro _; exact ⟨fun r => by simp [encTs, tmsP], fun n hn => by simp [encTs] at hn⟩
  | succ k ih =>
    intro hk
    have e1 : ts.take (k + 1) = ts.take k ++ [ts.getD k T.z] := by rw [List.take_add_one, List.getElem?_eq_getElem (show k < ts.length by omega)]; simp [List.getD, show k < ts.length by omega]
    have h2 := rds_map (f := fun (y : T) => ts.take k ++ [y]) (rds_tm (h _ (getD_mem2 (show k < ts.length by omega))))
    rw [encTs_succ (by omega), e1]
    exact rds_congr (fun _ => rfl) (rds_bind (q := fun (x : List T) (s : Bs) => (tmP s).map fun (y : T × Bs) => (x ++ [y.1], y.2)) (ih (by omega)) h2)
/-! ### Numbers of eight bytes -/
theorem beval_be {n : Int} (hn : 0 ≤ n ∧ n < 18446744073709551616) : ∀ k, k ≤ 8 → beval (be n k) = n / 256 ^ (8 - k) := by
  intro k
  induction k with
  | zero => intro _; rw [Int.ediv_eq_zero_of_lt hn.1 (by simpa using hn.2)]; rfl
  | succ k ih =>
    intro hk
    have hl : (be n k).length = k := by simp [be]
    have e : beval (be n (k + 1)) = beval (be n k) * 256 + ((byt (n / 256 ^ (7 - k))).toNat : Int) := by
      rw [be_succ]
      unfold beval
      rw [List.foldl_append]
      rfl
    rw [e, ih (by omega), ← byt_val, show 8 - k = (7 - k) + 1 by omega, ← div256, show 8 - (k + 1) = 7 - k by omega]
    omega
theorem be_len (n : Int) (k : Nat) : (be n k).length = k := by simp [be]
theorem beval_append (a b : Bs) : beval (a ++ b) = beval a * 256 ^ b.length + beval b := by
  have key : ∀ (l : Bs) (x : Int), l.foldl (fun a c => a * 256 + (c.toNat : Int)) x = x * 256 ^ l.length + beval l := by
    intro l
    induction l with
    | nil => intro x; simp [beval]
    | cons y r ih =>
      intro x
      have h1 := ih (x * 256 + (y.toNat : Int))
      have h2 := ih ((0 : Int) * 256 + (y.toNat : Int))
      unfold beval
      rw [List.foldl_cons, List.foldl_cons, h1, h2, List.length_cons, Int.pow_succ]
      rw [Int.mul_comm (256 ^ r.length) 256, ← Int.mul_assoc, Int.add_mul, Int.add_mul]
      omega
  unfold beval
  rw [List.foldl_append, key]
  rfl
theorem be_beval {l : Bs} (h : l.length = 8) : be (beval l) 8 = l := by
  apply List.ext_getElem (by rw [be_len, h])
  intro i h1 h2
  have hi : i < 8 := by rw [be_len] at h1; exact h1
  simp only [be, List.getElem_map, List.getElem_range]
  have e1 : beval l / 256 ^ (7 - i) = beval (l.take (i + 1)) := by
    have hsp := beval_append (l.take (i + 1)) (l.drop (i + 1))
    rw [List.take_append_drop] at hsp
    have hb := beval_b (l.drop (i + 1))
    have hlen : (l.drop (i + 1)).length = 7 - i := by rw [List.length_drop, h]; omega
    rw [hlen] at hsp hb
    have hp : (0 : Int) < 256 ^ (7 - i) := Int.pow_pos (by omega)
    rw [hsp, Int.add_comm, Int.add_mul_ediv_right _ _ (by omega), Int.ediv_eq_zero_of_lt hb.1 hb.2, Int.zero_add]
  rw [e1, beval_take h2]
  apply UInt8.toNat_inj.1
  have := byt_val (beval (l.take i) * 256 + ((l.getD i 0).toNat : Int))
  have hu := (l.getD i 0).toNat_lt
  have hg : l.getD i 0 = l[i] := by simp [List.getD, h2]
  rw [hg] at this hu ⊢
  omega
/-! ### Configs -/
def c7 (a b : Nat) (l q : Bs) (ts : List T) (s : Bs) : Option (C × Bs) := (tk 8 s).map fun st => (⟨a, b, l, q, ts, beval st.1⟩, st.2)
def c6 (a b : Nat) (l q : Bs) (n : Nat) (s : Bs) : Option (C × Bs) := (tmsP n s).bind fun ts => c7 a b l q ts.1 ts.2
def c5 (a b : Nat) (l : Bs) (q : Bs) (s : Bs) : Option (C × Bs) := (n1 s).bind fun n => c6 a b l q n.1 n.2
def c4 (a b : Nat) (l : Bs) (k : Nat) (s : Bs) : Option (C × Bs) := (tk k s).bind fun q => c5 a b l q.1 q.2
def c3 (a b : Nat) (l : Bs) (s : Bs) : Option (C × Bs) := (n1 s).bind fun k => c4 a b l k.1 k.2
def c2 (a : Nat) (b : Nat) (s : Bs) : Option (C × Bs) := (tk (a * b) s).bind fun l => c3 a b l.1 l.2
def c1 (a : Nat) (s : Bs) : Option (C × Bs) := (n1 s).bind fun b => c2 a b.1 b.2
theorem rds_cf {g : C} (ha : 0 ≤ g.a ∧ g.a < 256) (hb : 0 ≤ g.b ∧ g.b < 256) (hl : (g.l.length : Int) = g.a * g.b) (hs : g.s.length < 256) (ht : g.ts.length < 256) (hm : ∀ t ∈ g.ts, codable t) (hst : 0 ≤ g.st ∧ g.st < 18446744073709551616) : Rds cfP g (enc g) := by
  have e : enc g = [byt g.a] ++ ([byt g.b] ++ (g.l ++ ([byt g.s.length] ++ (g.s ++ ([byt g.ts.length] ++ (encTs g.ts g.ts.length ++ be g.st 8)))))) := by
    unfold enc head; simp only [List.append_assoc, List.cons_append, List.nil_append]
  obtain ⟨A, hA⟩ : ∃ A, (byt g.a).toNat = A := ⟨_, rfl⟩
  obtain ⟨B, hB⟩ : ∃ B, (byt g.b).toNat = B := ⟨_, rfl⟩
  have xa : (A : Int) = g.a := by rw [← hA]; exact (byt_small ha).symm
  have xb : (B : Int) = g.b := by rw [← hB]; exact (byt_small hb).symm
  have r8 := rds_tk (be g.st 8)
  rw [be_len] at r8
  have r8' : Rds (c7 A B g.l g.s g.ts) ⟨A, B, g.l, g.s, g.ts, beval (be g.st 8)⟩ (be g.st 8) := rds_congr (fun _ => rfl) (rds_map (f := fun (x : Bs) => (⟨(A : Int), (B : Int), g.l, g.s, g.ts, beval x⟩ : C)) r8)
  have r7 := rds_tms hm g.ts.length (Nat.le_refl _)
  rw [List.take_length] at r7
  have r6 := rds_n1 (byt (g.ts.length : Int))
  rw [byt_len ht] at r6
  have r5 := rds_tk g.s
  have r4 := rds_n1 (byt (g.s.length : Int))
  rw [byt_len hs] at r4
  have r3 := rds_tk g.l
  have hll : g.l.length = A * B := by
    have h2 : (g.l.length : Int) = ((A * B : Nat) : Int) := by rw [Int.natCast_mul, xa, xb]; exact hl
    exact Int.ofNat.inj h2
  have hg : (⟨A, B, g.l, g.s, g.ts, beval (be g.st 8)⟩ : C) = g := by
    rw [xa, xb, beval_be hst 8 (Nat.le_refl _), Nat.sub_self, Int.pow_zero, Int.ediv_one]
  rw [hg] at r8'
  rw [hll] at r3
  rw [e]
  have s7 : Rds (c6 A B g.l g.s g.ts.length) g (encTs g.ts g.ts.length ++ be g.st 8) := rds_congr (fun _ => rfl) (rds_bind (q := c7 A B g.l g.s) r7 r8')
  have s6 : Rds (c5 A B g.l g.s) g ([byt g.ts.length] ++ (encTs g.ts g.ts.length ++ be g.st 8)) := rds_congr (fun _ => rfl) (rds_bind (q := c6 A B g.l g.s) r6 s7)
  have s5 : Rds (c4 A B g.l g.s.length) g (g.s ++ ([byt g.ts.length] ++ (encTs g.ts g.ts.length ++ be g.st 8))) := rds_congr (fun _ => rfl) (rds_bind (q := c5 A B g.l) r5 s6)
  have s4 : Rds (c3 A B g.l) g ([byt g.s.length] ++ (g.s ++ ([byt g.ts.length] ++ (encTs g.ts g.ts.length ++ be g.st 8)))) := rds_congr (fun _ => rfl) (rds_bind (q := c4 A B g.l) r4 s5)
  have s3 : Rds (c2 A B) g (g.l ++ ([byt g.s.length] ++ (g.s ++ ([byt g.ts.length] ++ (encTs g.ts g.ts.length ++ be g.st 8))))) := rds_congr (fun _ => rfl) (rds_bind (q := c3 A B) r3 s4)
  have s2 : Rds (c1 A) g ([byt g.b] ++ (g.l ++ ([byt g.s.length] ++ (g.s ++ ([byt g.ts.length] ++ (encTs g.ts g.ts.length ++ be g.st 8)))))) := rds_congr (fun _ => rfl) (rds_bind (q := c2 A) (hB ▸ rds_n1 (byt g.b)) s3)
  exact rds_congr (fun _ => rfl) (rds_bind (q := c1) (hA ▸ rds_n1 (byt g.a)) s2)
theorem bytes_small {l : List Int} (h : l.length ≤ 3) (hp : ∀ n ∈ l, 0 ≤ n ∧ n < 256) : bytes l := ⟨by omega, hp⟩
theorem team_codable {g : C} (h : check g = 0) {t : T} (ht : t ∈ g.ts) : codable t := by
  obtain ⟨i, hi, rfl⟩ := List.getElem_of_mem ht
  have hl := Fl.validF_len (check_zero h).1
  have := team_at h hi
  have e : g.ts.getD i T.z = g.ts[i] := by simp [List.getD, hi]
  rw [e] at this
  generalize g.ts[i] = m at *
  rcases this with ha | hv
  · have : m = T.z := of_decide_eq_true ha
    subst this
    exact ⟨⟨by simp [T.z], fun n hn => by cases hn⟩, ⟨by simp [T.z], fun n hn => by cases hn⟩, ⟨by simp [T.z], fun n hn => by cases hn⟩, fun n hn => by simp [nums, T.z] at hn; omega, fun _ => rfl⟩
  · obtain ⟨⟨s1, s2, s3⟩, _⟩ := valid_small hv
    have hb : ∀ n ∈ spots m, 0 ≤ n ∧ n < 256 := fun n hn => by
      have := valid_at hv hn
      unfold ownAt at this
      simp only [Bool.and_eq_true, decide_eq_true_eq] at this
      omega
    have hn : numbers m = true := by
      unfold validTeam at hv
      simp only [Bool.and_eq_true] at hv
      exact hv.1.1
    have hln := numbers_len hn
    unfold numbers lims btw at hn
    simp only [List.all_cons, Bool.and_eq_true, decide_eq_true_eq] at hn
    unfold spots at hb
    refine ⟨bytes_small s1 fun n hn => hb n (by simp [hn]), bytes_small s2 fun n hn => hb n (by simp [hn]), bytes_small s3 fun n hn => hb n (by simp [hn]), fun n hx => ?_, fun h0 => by omega⟩
    simp only [nums, List.mem_cons, List.not_mem_nil, or_false] at hx
    rcases hx with rfl | rfl | rfl | rfl | rfl <;> omega
theorem rds_ok {g : C} (h : check g = 0) (hst : 0 ≤ g.st) : Rds cfP g (enc g) := by
  obtain ⟨h1, h2, h3, h4⟩ := check_zero h
  have hv := (Fl.validF_iff.1 h1).1
  have hs := Fl.valid_iff.1 hv.1
  have hl := (Fl.validS_iff.1 h2).1
  have ht := teams_len h3
  exact rds_cf (by omega) (by omega) hv.2 (by omega) (by omega) (fun t => team_codable h) (by omega)
theorem enc_len {g : C} (h : check g = 0) : 0 < (enc g).length ∧ (enc g).length ≤ 208 := by
  have h1 := hdts_len h (Nat.le_refl _)
  unfold enc
  rw [List.length_append, be_len]
  omega
theorem dec_enc {g : C} (h : check g = 0) (hst : 0 ≤ g.st) : dec (enc g) = (g, 0) := by
  have hr := (rds_ok h hst).1 []
  rw [List.append_nil] at hr
  have := enc_len h
  unfold dec
  rw [if_neg (by omega), hr]
  simp [h]
theorem dec_more1 {g : C} (h : check g = 0) (hst : 0 ≤ g.st) (x : UInt8) : dec (enc g ++ [x]) = (zero, 11) := by
  have hr := (rds_ok h hst).1 [x]
  have := enc_len h
  unfold dec
  rw [if_neg (by rw [List.length_append, List.length_cons, List.length_nil]; omega), hr]
  rfl
theorem dec_less {g : C} (h : check g = 0) (hst : 0 ≤ g.st) {n : Nat} (hn : n < (enc g).length) : dec ((enc g).take n) = (zero, 10) := by
  have hr := (rds_ok h hst).2 n hn
  have := enc_len h
  unfold dec
  rw [if_neg (by rw [List.length_take]; omega), hr]
/-! ### The other way -/
theorem byt_u8 (x : UInt8) : byt (x.toNat : Int) = x := by
  apply UInt8.toNat_inj.1
  have := byt_val (x.toNat : Int)
  have := x.toNat_lt
  omega
theorem inv_n1 {s r : Bs} {x : Nat} (h : n1 s = some (x, r)) : s = byt x :: r := by
  cases s with
  | nil => cases h
  | cons y q =>
    simp only [n1, Option.some.injEq, Prod.mk.injEq] at h
    rw [← h.1, ← h.2, byt_u8]
theorem inv_tk {n : Nat} {s l r : Bs} (h : tk n s = some (l, r)) : s = l ++ r ∧ l.length = n := by
  refine ⟨?_, tk_len h⟩
  unfold tk at h
  split at h
  · simp only [Option.some.injEq, Prod.mk.injEq] at h
    rw [← h.1, ← h.2, List.take_append_drop]
  · cases h
theorem byt_is (l : Bs) : (is l).map byt = l := by
  unfold is
  rw [List.map_map]
  conv => rhs; rw [← List.map_id l]
  exact List.map_congr_left fun x _ => byt_u8 x
theorem inv_ls {s r : Bs} {l : List Int} (h : ls s = some (l, r)) : s = encL l ++ r := by
  unfold ls at h
  cases h1 : n1 s with
  | none => rw [h1] at h; cases h
  | some x =>
    rw [h1] at h
    simp only [Option.bind_some] at h
    cases h2 : tk x.1 x.2 with
    | none => rw [h2] at h; cases h
    | some y =>
      rw [h2] at h
      simp only [Option.map_some, Option.some.injEq, Prod.mk.injEq] at h
      obtain ⟨e1, e2⟩ := inv_tk h2
      have e3 := inv_n1 h1
      rw [e3, e1, ← h.1, ← h.2]
      unfold encL
      rw [byt_is, ← e2]
      simp [is]
theorem inv_ns : ∀ {k : Nat} {s r : Bs} {l : List Int}, nsP k s = some (l, r) → s = l.map byt ++ r ∧ l.length = k := by
  intro k
  induction k with
  | zero => intro s r l h; simp only [nsP, Option.some.injEq, Prod.mk.injEq] at h; rw [← h.1, ← h.2]; exact ⟨rfl, rfl⟩
  | succ k ih =>
    intro s r l h
    unfold nsP at h
    cases h1 : nsP k s with
    | none => rw [h1] at h; cases h
    | some x =>
      rw [h1] at h
      simp only [Option.bind_some] at h
      cases h2 : n1 x.2 with
      | none => rw [h2] at h; cases h
      | some y =>
        rw [h2] at h
        simp only [Option.map_some, Option.some.injEq, Prod.mk.injEq] at h
        obtain ⟨e1, e2⟩ := ih (l := x.1) (r := x.2) h1
        have e3 := inv_n1 h2
        rw [e1, e3, ← h.1, ← h.2]
        exact ⟨by simp, by simp [e2]⟩
theorem inv_tm {s r : Bs} {t : T} (h : tmP s = some (t, r)) : s = encT t ++ r := by
  unfold tmP at h
  cases h1 : ls s with
  | none => rw [h1] at h; cases h
  | some x =>
    rw [h1] at h
    simp only [Option.bind_some] at h
    have e1 := inv_ls (l := x.1) (r := x.2) h1
    split at h
    · rename_i h0
      simp only [Option.some.injEq, Prod.mk.injEq] at h
      rw [e1, ← h.1, ← h.2]
      unfold encT
      rw [if_pos h0, List.append_nil]
    · rename_i h0
      cases h2 : ls x.2 with
      | none => rw [h2] at h; cases h
      | some y =>
        rw [h2] at h
        simp only [Option.bind_some] at h
        cases h3 : ls y.2 with
        | none => rw [h3] at h; cases h
        | some z =>
          rw [h3] at h
          simp only [Option.bind_some] at h
          cases h4 : nsP 5 z.2 with
          | none => rw [h4] at h; cases h
          | some w =>
            rw [h4] at h
            simp only [Option.map_some, Option.some.injEq, Prod.mk.injEq] at h
            have e2 := inv_ls (l := y.1) (r := y.2) h2
            have e3 := inv_ls (l := z.1) (r := z.2) h3
            obtain ⟨e4, e5⟩ := inv_ns (l := w.1) (r := w.2) h4
            obtain ⟨a, b, c, d, e, e6⟩ := five e5
            rw [e1, e2, e3, e4, ← h.1, ← h.2]
            unfold encT nums
            rw [if_neg h0, e6]
            simp
theorem inv_tms : ∀ {k : Nat} {s r : Bs} {ts : List T}, tmsP k s = some (ts, r) → s = encTs ts ts.length ++ r ∧ ts.length = k := by
  intro k
  induction k with
  | zero => intro s r l h; simp only [tmsP, Option.some.injEq, Prod.mk.injEq] at h; rw [← h.1, ← h.2]; exact ⟨rfl, rfl⟩
  | succ k ih =>
    intro s r l h
    unfold tmsP at h
    cases h1 : tmsP k s with
    | none => rw [h1] at h; cases h
    | some x =>
      rw [h1] at h
      simp only [Option.bind_some] at h
      cases h2 : tmP x.2 with
      | none => rw [h2] at h; cases h
      | some y =>
        rw [h2] at h
        simp only [Option.map_some, Option.some.injEq, Prod.mk.injEq] at h
        obtain ⟨e1, e2⟩ := ih (ts := x.1) (r := x.2) h1
        have e3 := inv_tm (t := y.1) (r := y.2) h2
        rw [e1, e3, ← h.1, ← h.2]
        refine ⟨?_, by simp [e2]⟩
        unfold encTs
        rw [List.take_length, List.take_length, List.flatMap_append]
        simp
theorem inv_cf {s r : Bs} {g : C} (h : cfP s = some (g, r)) : s = enc g ++ r := by
  unfold cfP at h
  cases h1 : n1 s with
  | none => rw [h1] at h; cases h
  | some x1 =>
  rw [h1] at h; simp only [Option.bind_some] at h
  cases h2 : n1 x1.2 with
  | none => rw [h2] at h; cases h
  | some x2 =>
  rw [h2] at h; simp only [Option.bind_some] at h
  cases h3 : tk (x1.1 * x2.1) x2.2 with
  | none => rw [h3] at h; cases h
  | some x3 =>
  rw [h3] at h; simp only [Option.bind_some] at h
  cases h4 : n1 x3.2 with
  | none => rw [h4] at h; cases h
  | some x4 =>
  rw [h4] at h; simp only [Option.bind_some] at h
  cases h5 : tk x4.1 x4.2 with
  | none => rw [h5] at h; cases h
  | some x5 =>
  rw [h5] at h; simp only [Option.bind_some] at h
  cases h6 : n1 x5.2 with
  | none => rw [h6] at h; cases h
  | some x6 =>
  rw [h6] at h; simp only [Option.bind_some] at h
  cases h7 : tmsP x6.1 x6.2 with
  | none => rw [h7] at h; cases h
  | some x7 =>
  rw [h7] at h; simp only [Option.bind_some] at h
  cases h8 : tk 8 x7.2 with
  | none => rw [h8] at h; cases h
  | some x8 =>
  rw [h8] at h
  simp only [Option.map_some, Option.some.injEq, Prod.mk.injEq] at h
  obtain ⟨e3, l3⟩ := inv_tk (l := x3.1) (r := x3.2) h3
  obtain ⟨e5, l5⟩ := inv_tk (l := x5.1) (r := x5.2) h5
  obtain ⟨e7, l7⟩ := inv_tms (ts := x7.1) (r := x7.2) h7
  obtain ⟨e8, l8⟩ := inv_tk (l := x8.1) (r := x8.2) h8
  rw [inv_n1 (x := x1.1) (r := x1.2) h1, inv_n1 (x := x2.1) (r := x2.2) h2, e3, inv_n1 (x := x4.1) (r := x4.2) h4, e5, inv_n1 (x := x6.1) (r := x6.2) h6, e7, e8, ← h.1, ← h.2]
  unfold enc head
  simp only [be_beval l8, l5, l7]
  simp
theorem enc_dec {b : Bs} {g : C} (h : dec b = (g, 0)) : check g = 0 ∧ enc g = b := by
  unfold dec at h
  split at h
  · cases h
  · split at h
    · cases h
    · rename_i x hx
      split at h
      · cases h
      · rename_i h0
        split at h
        · rename_i hc
          simp only [Prod.mk.injEq, and_true] at h
          have e := inv_cf (g := x.1) (r := x.2) hx
          have : x.2 = [] := List.eq_nil_of_length_eq_zero (by omega)
          rw [this, List.append_nil] at e
          rw [← h]
          exact ⟨hc, e.symm⟩
        · rename_i hc
          exact absurd (congrArg Prod.snd h) hc
theorem dec_pair {b : Bs} (h : (dec b).2 = 0) : check (dec b).1 = 0 ∧ enc (dec b).1 = b := enc_dec (g := (dec b).1) (by rw [← h])
theorem encR_ok {g : C} (h : check g = 0) : encR g = (enc g, 0) := if_pos h
end Cf
namespace E
open Go Go.RowKit
section
variable {P : Program} {n : Nat} {w0 : World} {F : Nat → Prop} {K : Kt} {l : Env} {H : List HP} {o : Oper}
theorem addr_add0 (a : Addr) : a.add 0 = a := by
  cases a with
  | mk b i r => cases r <;> simp [Addr.add]
theorem PV.sub0 {t Et bytes m c hi : Nat} {x q : Operand} {z : Value} {A : Option Addr} (hT : P.underlying t = some (.slice Et)) (hI : In P Et z 1 bytes) (ho : o.op = .slice t x none (some q) none) (hx : ev l x = some (.slice A m c))
    (hq : ev l q = some (.int .i64 (hi : Int))) (h2 : hi ≤ c) : PV P n w0 F l H o (.slice A hi c) := fun a w ha _ => by
  obtain ⟨inf, hinf, hz0, hz1, hz2⟩ := hI.parts
  have hel : P.elem t = Et := by simp [Program.elem, hT]
  have hT' : P.underlying t = some (.slice (P.elem t)) := by rw [hel]; exact hT
  have hr := run_slice_h (P := P) w t A m c hT' .i64 (hi : Int) (by omega) (by omega)
  rw [hel] at hr
  have hsa := run_sliceAt_slice (P := P) w t (.slice A m c) none (some (.int .i64 (hi : Int))) none hT'
  simp [execOp, ho, ha.ev hx, ha.ev hq, hsa, hr, sizeOf, typeInfo, hinf, hz1, Result.andThen, sliced]
  intro _
  cases A with
  | none => rfl
  | some ad => rw [Option.map_some, addr_add0]
theorem rd_take {w : World} {G : Nat → Prop} {A : Option Addr} {m : Nat} {b : List UInt8} (hr : Rd w G A (u8s b)) : Rd w G A (u8s (b.take m)) := fun hx => by
  obtain ⟨ad, rfl, hg, hcl⟩ := hr (by simp at hx ⊢; omega)
  refine ⟨ad, rfl, hg, fun j u hu => hcl j u ?_⟩
  simp only [u8s, List.getElem?_map, List.getElem?_take] at hu ⊢
  split at hu
  · exact hu
  · simp at hu
theorem PV.rem_any {t t' : TypeId} {x y : Operand} {k : IntKind} {p q : Int} (ho : o.op = .binOp .rem t x y t') (hx : ev l x = some (.int k p)) (hy : ev l y = some (.int k q)) (hq : q ≠ 0) : PV P n w0 F l H o (.int k (p.tmod q)) :=
  PV.bin ho hx hy eg_int fun w => by
    rw [binOp_rem]
    simp [Op.intDiv, hq]
end
end E
end Go.Proofs.Yteibcphdbkgcgaa
