/- A writer behind a pointer, numbers as bytes, and the encoding of a config. No program in sight. -/
import Derived.Test.YteibcphdbkgcgaaOn
namespace Go.Proofs.Yteibcphdbkgcgaa
set_option linter.unusedSimpArgs false
set_option linter.unusedVariables false
namespace Cf
open Go
def byt (n : Int) : UInt8 := UInt8.ofNat (n % 256).toNat
theorem byt_wrap (n : Int) : IntKind.u8.wrap n = ((byt n).toNat : Int) := by
  unfold byt
  rw [UInt8.toNat_ofNat', IntKind.wrap_u8]
  omega
def encL (l : List Int) : List UInt8 := byt l.length :: l.map byt
def nums (t : T) : List Int := [t.n1, t.n2, t.n3, t.n4, t.n5]
def encT (t : T) : List UInt8 := encL t.h ++ if t.h.length = 0 then [] else encL t.p ++ encL t.d ++ (nums t).map byt
def encTs (ts : List T) (k : Nat) : List UInt8 := (ts.take k).flatMap encT
def be (n : Int) (k : Nat) : List UInt8 := (List.range k).map fun (i : Nat) => byt (n / 256 ^ (7 - i))
def head (g : C) : List UInt8 := [byt g.a, byt g.b] ++ g.l ++ [byt g.s.length] ++ g.s ++ [byt g.ts.length]
def enc (g : C) : List UInt8 := head g ++ encTs g.ts g.ts.length ++ be g.st 8
def encR (g : C) : List UInt8 × Int := if check g = 0 then (enc g, 0) else ([], check g)
theorem encL_len (l : List Int) : (encL l).length = l.length + 1 := by simp [encL]
theorem encT_big {t : T} (h : 0 < (t.h.length : Int)) : encT t = encL t.h ++ (encL t.p ++ encL t.d ++ (nums t).map byt) := by unfold encT; rw [if_neg (by omega)]
theorem encT_none {t : T} (h : (t.h.length : Int) ≤ 0) : encT t = encL t.h := by unfold encT; rw [if_pos (by omega), List.append_nil]
theorem enc_big {hd : List UInt8} {ts : List T} {k : Nat} {t : T} (hE : encTs ts (k + 1) = encTs ts k ++ encT t) (h : 0 < (t.h.length : Int)) : hd ++ encTs ts (k + 1) = hd ++ encTs ts k ++ encL t.h ++ encL t.p ++ encL t.d ++ (nums t).map byt := by
  rw [hE, encT_big h]; simp only [List.append_assoc]
theorem enc_none {hd : List UInt8} {ts : List T} {k : Nat} {t : T} (hE : encTs ts (k + 1) = encTs ts k ++ encT t) (h : (t.h.length : Int) ≤ 0) : hd ++ encTs ts (k + 1) = hd ++ encTs ts k ++ encL t.h := by
  rw [hE, encT_none h]; simp only [List.append_assoc]
theorem getD_mem2 {ts : List T} {k : Nat} (h : k < ts.length) : ts.getD k T.z ∈ ts := by
  rw [List.getD_eq_getElem?_getD, List.getElem?_eq_getElem h, Option.getD_some]; exact List.getElem_mem h
theorem encTs_succ {ts : List T} {k : Nat} (h : k < ts.length) : encTs ts (k + 1) = encTs ts k ++ encT (ts.getD k T.z) := by
  unfold encTs
  rw [List.take_add_one, List.getElem?_eq_getElem h, Option.toList_some, List.flatMap_append]
  simp [List.getD, h]
theorem be_succ (n : Int) (k : Nat) : be n (k + 1) = be n k ++ [byt (n / 256 ^ (7 - k))] := by
  unfold be; rw [List.range_succ, List.map_append]; rfl
theorem map_succ' {l : List Int} {k : Nat} (h : k < l.length) {x : UInt8} (e : byt (l.getD k 0) = x) : (l.take k).map byt ++ [x] = (l.take (k + 1)).map byt := by
  subst e
  rw [List.take_add_one, List.getElem?_eq_getElem h, Option.toList_some, List.map_append]
  simp [List.getD, h]
theorem pow256 (i : Nat) : (256 : Int) ^ i = 2 ^ (8 * i) := by rw [show (256 : Int) = 2 ^ 8 from rfl, ← Int.pow_mul]
theorem shr_byt (n : Int) {k : Nat} (h : k ≤ 7) : IntKind.u8.wrap (n / 2 ^ min (8 * (7 - (k : Int))).toNat IntKind.u64.bits) = ((byt (n / 256 ^ (7 - k))).toNat : Int) := by
  have e : min (8 * (7 - (k : Int))).toNat IntKind.u64.bits = 8 * (7 - k) := by
    have h64 : IntKind.u64.bits = 64 := rfl
    rw [h64]; omega
  rw [e, ← pow256, byt_wrap]
theorem div256 (n : Int) (j : Nat) : n / 256 ^ j / 256 = n / 256 ^ (j + 1) := by
  rw [Int.pow_succ, Int.ediv_ediv_of_nonneg (Int.pow_nonneg (by omega))]
theorem div_b {n : Int} (hn : 0 ≤ n ∧ n < 18446744073709551616) (j : Nat) : 0 ≤ n / 256 ^ j ∧ n / 256 ^ j < 18446744073709551616 := by
  have hp : (0 : Int) < 256 ^ j := Int.pow_pos (by omega)
  refine ⟨Int.ediv_nonneg hn.1 (by omega), ?_⟩
  have := Int.ediv_le_self (256 ^ j) hn.1
  omega
theorem byt_val (n : Int) : n % 256 = ((byt n).toNat : Int) := by
  unfold byt; rw [UInt8.toNat_ofNat']; omega
theorem byt_small {n : Int} (h : 0 ≤ n ∧ n < 256) : n = ((byt n).toNat : Int) := by
  unfold byt; rw [UInt8.toNat_ofNat']; omega
theorem byt_mod (n : Int) : IntKind.u8.wrap (n % 256) = ((byt n).toNat : Int) := by
  rw [← byt_wrap, IntKind.wrap_u8, IntKind.wrap_u8]; omega
/-- the lengths of a valid team's lists. -/
def small (t : T) : Prop := t.h.length ≤ 3 ∧ t.p.length ≤ 3 ∧ t.d.length ≤ 3
theorem team_small {g : C} {t : T} (hk : teamsOk g = true) (ht : t ∈ g.ts) : small t := by
  obtain ⟨i, hi, rfl⟩ := List.getElem_of_mem ht
  unfold teamsOk at hk
  simp only [Bool.and_eq_true, List.all_eq_true, List.mem_range] at hk
  have := hk.1.1.1.2 i hi
  unfold teamOk at this
  have e : g.ts.getD i T.z = g.ts[i] := by simp [List.getD, hi]
  rw [e, Bool.or_eq_true] at this
  rcases this with h | h
  · have : g.ts[i] = T.z := of_decide_eq_true h
    rw [this]; exact ⟨by simp [T.z], by simp [T.z], by simp [T.z]⟩
  · unfold validTeam at h
    simp only [Bool.and_eq_true] at h
    have := numbers_len h.1.1
    exact ⟨this.1.2, this.2.1.2, this.2.2.2⟩
theorem encT_len {t : T} (h : small t) : (encT t).length ≤ 17 := by
  unfold encT encL nums
  obtain ⟨h1, h2, h3⟩ := h
  split <;> simp only [List.length_append, List.length_cons, List.length_map, List.length_nil] <;> omega
theorem encTs_len {ts : List T} (h : ∀ t ∈ ts, small t) : ∀ k, k ≤ ts.length → (encTs ts k).length ≤ 17 * k := by
  intro k
  induction k with
  | zero => intro _; simp [encTs]
  | succ k ih =>
    intro hk
    rw [encTs_succ (by omega), List.length_append]
    have h1 := ih (by omega)
    have h2 := encT_len (h (ts.getD k T.z) (by rw [List.getD_eq_getElem?_getD, List.getElem?_eq_getElem (show k < ts.length by omega), Option.getD_some]; exact List.getElem_mem _))
    omega
theorem head_len {g : C} (h : check g = 0) : (head g).length ≤ 90 := by
  have hz := check_zero h
  have h1 := Fl.validF_len hz.1
  have h2 := (Fl.validS_iff.1 hz.2.1).1
  unfold head
  simp only [List.length_append, List.length_cons, List.length_nil]
  omega
theorem all_small {g : C} (h : check g = 0) : ∀ t ∈ g.ts, small t := fun t ht => team_small (check_zero h).2.2.1 ht
theorem hdts_len {g : C} (h : check g = 0) {k : Nat} (hk : k ≤ g.ts.length) : (head g ++ encTs g.ts k).length ≤ 200 := by
  have h1 := head_len h
  have h2 := encTs_len (all_small h) k hk
  have h3 := teams_len (check_zero h).2.2.1
  rw [List.length_append]
  omega
end Cf
namespace E
open Go Go.RowKit
section
variable {P : Program} {n : Nat} {w0 : World} {F : Nat → Prop} {K : Kt} {l : Env} {H : List HP} {o : Oper}
theorem PV.nilCheck {x : Operand} {ad : Addr} (ho : o.op = .nilCheck x) (hx : ev l x = some (.pointer (some ad))) : PV P n w0 F l H o (.pointer (some ad)) := fun a w ha _ => by
  simp [execOp, ho, ha.ev hx]
theorem PV.shr {t t' : TypeId} {x y : Operand} {k yk : IntKind} {p q : Int} (ho : o.op = .binOp .shr t x y t') (hx : ev l x = some (.int k p)) (hy : ev l y = some (.int yk q)) (hq : 0 ≤ q) : PV P n w0 F l H o (.int k (p / 2 ^ min q.toNat k.bits)) :=
  PV.bin ho hx hy eg_int fun w => by
    rw [show binOp .shr t (.int k p) (.int yk q) = Op.shift .shr k p yk q from by simp [binOp], shift_shr_any k yk p q hq]; rfl
theorem PV.quo_u64 {t t' : TypeId} {x y : Operand} {p q : Int} (ho : o.op = .binOp .quo t x y t') (hx : ev l x = some (.int .u64 p)) (hy : ev l y = some (.int .u64 q)) (hp : 0 ≤ p ∧ p < 18446744073709551616) (hq : 0 < q) :
    PV P n w0 F l H o (.int .u64 (p / q)) :=
  PV.bin ho hx hy eg_int fun w => by
    have h1 : p.tdiv q = p / q := Int.tdiv_eq_ediv_of_nonneg hp.1
    have h2 : 0 ≤ p / q := Int.ediv_nonneg hp.1 (by omega)
    have h3 : p / q ≤ p := Int.ediv_le_self _ hp.1
    have : IntKind.u64.wrap (p / q) = p / q := by rw [IntKind.wrap_u64]; omega
    rw [binOp_quo]
    simp [Op.intDiv, show q ≠ 0 by omega, h1, this]

/-- a writer: its block and its bytes. -/
def HP.wrt (B : Nat) (bs : List UInt8) : HP where
  sem S w := ∃ A c, (HP.bag [HP.blk B 69 [.slice A bs.length c], HP.row 5 1 A bs.length c (u8s bs)]).sem S w
  loc := fun S w w' h ⟨A, c, hb⟩ => ⟨A, c, (HP.bag _).loc S w w' h hb⟩
theorem CW.wrtin {c : Code} (i j : Nat) {B cc : Nat} {A : Option Addr} {bs : List UInt8} {H1 H2 : List HP} (hi : sel H i = some (HP.blk B 69 [.slice A bs.length cc], H1)) (hj : sel H1 j = some (HP.row 5 1 A bs.length cc (u8s bs), H2)) (k : CW P n w0 F c K l (HP.wrt B bs :: H2)) : CW P n w0 F c K l H := fun a w ha hw => by
  have h1 := hw.perm ((sel_perm hi).trans ((sel_perm hj).cons _))
  refine k a w ha { h1 with chunks := ?_ }
  have h2 := Chunks.gather (ps := [HP.blk B 69 [.slice A bs.length cc], HP.row 5 1 A bs.length cc (u8s bs)]) (r := H2) h1.chunks
  obtain ⟨S, g1, g2, g3⟩ := h2
  exact ⟨S, ⟨A, cc, g1⟩, g2, g3⟩
theorem CW.wrtout {c : Code} (i : Nat) {B : Nat} {bs : List UInt8} {H1 : List HP} (hi : sel H i = some (HP.wrt B bs, H1)) (k : ∀ A cc, CW P n w0 F c K l (HP.blk B 69 [.slice A bs.length cc] :: HP.row 5 1 A bs.length cc (u8s bs) :: H1)) : CW P n w0 F c K l H := fun a w ha hw => by
  have h1 := hw.sel hi
  obtain ⟨S, ⟨A, cc, g1⟩, g2, g3⟩ := h1.chunks
  exact k A cc a w ha { h1 with chunks := Chunks.open (ps := [HP.blk B 69 [.slice A bs.length cc], HP.row 5 1 A bs.length cc (u8s bs)]) ⟨S, g1, g2, g3⟩ }
theorem OW.wrtin {ops : Array Oper} {rest : List Oper} (i j : Nat) {B cc : Nat} {A : Option Addr} {bs : List UInt8} {H1 H2 : List HP} (hi : sel H i = some (HP.blk B 69 [.slice A bs.length cc], H1)) (hj : sel H1 j = some (HP.row 5 1 A bs.length cc (u8s bs), H2)) (k : OW P n w0 F ops K rest l (HP.wrt B bs :: H2)) : OW P n w0 F ops K rest l H := fun a w ha hw => by
  have h1 := hw.perm ((sel_perm hi).trans ((sel_perm hj).cons _))
  refine k a w ha { h1 with chunks := ?_ }
  obtain ⟨S, g1, g2, g3⟩ := Chunks.gather (ps := [HP.blk B 69 [.slice A bs.length cc], HP.row 5 1 A bs.length cc (u8s bs)]) (r := H2) h1.chunks
  exact ⟨S, ⟨A, cc, g1⟩, g2, g3⟩
/-- the frame of a function that may turn the chunk p alone. -/
def Fm (w : World) (S : Nat → Prop) : Nat → Prop := fun k => k < w.heap.size ∧ ¬ S k
theorem HA.startM {w : World} {S : Nat → Prop} {p : HP} (hS : p.sem S w) (hb : ∀ k, S k → k < w.heap.size) : HA w (Fm w S) [p] w :=
  ⟨rfl, rfl, rfl, Nat.le_refl _, fun _ h => h.1, fun _ _ => rfl, S, hS, fun k hk => ⟨hb k hk, fun h => h.2 hk⟩, trivial⟩
theorem HA.rdM {w : World} (h : HA w0 F H w) {A : Option Addr} {xs : List Value} (hr : Rd w0 F A xs) {S : Nat → Prop} (hb : ∀ k, S k → k < w.heap.size ∧ ¬ F k) : Rd w (Fm w S) A xs := fun hx => by
  obtain ⟨ad, rfl, hg, hc⟩ := hr hx
  refine ⟨ad, rfl, ⟨Nat.lt_of_lt_of_le (h.flt _ hg) h.size, fun hs => (hb _ hs).2 hg⟩, fun j u hu => ?_⟩
  rw [World.cell?_of_block (w := w0) (a := ad.add j) (by rw [Addr.add_block]; exact h.kept _ hg)]
  exact hc j u hu
theorem HA.rdTM {w : World} (h : HA w0 F H w) {m : Tm} (hr : m.rd w0 F) {S : Nat → Prop} (hb : ∀ k, S k → k < w.heap.size ∧ ¬ F k) : m.rd w (Fm w S) := ⟨h.rdM hr.1 hb, h.rdM hr.2.1 hb, h.rdM hr.2.2 hb⟩
theorem OW.chunk {ops : Array Oper} {rest : List Oper} (i : Nat) {p : HP} (p' : HP) {H' : List HP} (hi : sel H i = some (p, H')) (he : p = p') (k : OW P n w0 F ops K rest l (p' :: H')) : OW P n w0 F ops K rest l H := fun a w ha hw => k a w ha (he ▸ hw.sel hi)
end
end E
end Go.Proofs.Yteibcphdbkgcgaa
