/- Laws of single operations for the program logic of the Logic text: values, memory chunks, calls of builtins. No program in sight. -/
import Derived.Test.YteibcphdbkgcgaaLogic
import Derived.Maps.AppendAt
import Derived.Lib.OthersKept
namespace Go.Proofs.Yteibcphdbkgcgaa
namespace E
open Go Go.RowKit
set_option linter.unusedSimpArgs false
set_option linter.unusedVariables false

theorem eg_int {op : BinOp} {t : TypeId} {x y : Operand} {k : IntKind} {p : Int} {v : Value} : eqGuard op t x y (.int k p) v = Pure.pure () := by cases op <;> rfl
theorem eg_bool {op : BinOp} {t : TypeId} {x y : Operand} {b : Bool} {v : Value} : eqGuard op t x y (.bool b) v = Pure.pure () := by cases op <;> rfl
theorem eg_str {op : BinOp} {t : TypeId} {x y : Operand} {b : ByteArray} {v : Value} : eqGuard op t x y (.string b) v = Pure.pure () := by cases op <;> rfl
theorem beq_dec {α : Type} [DecidableEq α] [BEq α] [LawfulBEq α] (a b : α) : (a == b) = decide (a = b) := by
  by_cases h : a = b <;> simp [h]
/-! short names for the walk's rewriting of tests. -/
theorem b0 {p : Prop} [Decidable p] : (decide p = true) = p := decide_eq_true_eq
theorem b1 {p : Prop} [Decidable p] : decide p = false ↔ ¬ p := decide_eq_false_iff_not
theorem b2 (b : Bool) : ((!b) = true) = (b = false) := Bool.not_eq_true' b
theorem b3 (b : Bool) : ((!b) = false) = (b = true) := Bool.not_eq_false' b
theorem b4 : (!true) = false := rfl
theorem b5 : (!false) = true := rfl
theorem b6 (a b : Bool) : ((a && b) = true) = (a = true ∧ b = true) := Bool.and_eq_true a b
theorem b7 (a b : Bool) : ((a || b) = true) = (a = true ∨ b = true) := Bool.or_eq_true a b
theorem b8 {a b : Bool} : (a && b) = false ↔ a = false ∨ b = false := Bool.and_eq_false_iff
theorem b9 {a b : Bool} : (a || b) = false ↔ a = false ∧ b = false := Bool.or_eq_false_iff
theorem b10 {a b : Int} : ¬ a < b ↔ b ≤ a := Int.not_lt
theorem b11 {a b : Int} : ¬ a ≤ b ↔ b < a := Int.not_le
theorem b12 {a b : Bool} : ((!a) = b) ↔ (a = !b) := Bool.not_eq_eq_eq_not
theorem b13 {α : Type} [BEq α] [LawfulBEq α] {a b : α} : (a == b) = true ↔ a = b := beq_iff_eq
theorem b14 {α : Type} [BEq α] [LawfulBEq α] {a b : α} : (a == b) = false ↔ a ≠ b := beq_eq_false_iff_ne
theorem b15 {α : Type} [BEq α] [LawfulBEq α] {a b : α} : (a != b) = true ↔ a ≠ b := bne_iff_ne
theorem b16 {α : Type} (a b : α) : (a ≠ b) = ¬ a = b := ne_eq a b
theorem b17 (b : Bool) : (true && b) = b := Bool.true_and b
theorem b18 (b : Bool) : (b && true) = b := Bool.and_true b
theorem b19 (b : Bool) : (false || b) = b := Bool.false_or b
theorem b20 (b : Bool) : (b || false) = b := Bool.or_false b

/-- a string by its bytes. -/
def sv (l : List UInt8) : Value := .string ⟨l.toArray⟩
theorem sv_mk (s : ByteArray) : Value.string s = sv s.data.toList := rfl

section
variable {P : Program} {n : Nat} {w0 : World} {F : Nat → Prop} {K : Kt} {l : Env} {H : List HP} {o : Oper}

/-! ### Values -/
theorem PV.move {x : Operand} {v : Value} (ho : o.op = .move x) (hx : ev l x = some v) : PV P n w0 F l H o v := fun a w ha _ => by
  simp only [execOp, ho, ha.ev hx]; rfl
theorem PV.assign {x : Operand} {v : Value} (ho : o.op = .assign x) (hx : ev l x = some v) : PV P n w0 F l H o v := fun a w ha _ => by
  simp only [execOp, ho, ha.ev hx]; rfl

theorem PV.pick_t {c x y : Operand} {v : Value} (ho : o.op = .pick c x y) (hc : ev l c = some (.bool true)) (hx : ev l x = some v) : PV P n w0 F l H o v := fun a w ha _ => by
  simp only [execOp, ho, ha.ev hx, ha.ev hc]; rfl
theorem PV.pick_f {c x y : Operand} {v : Value} (ho : o.op = .pick c x y) (hc : ev l c = some (.bool false)) (hy : ev l y = some v) : PV P n w0 F l H o v := fun a w ha _ => by
  simp only [execOp, ho, ha.ev hy, ha.ev hc]; rfl
theorem PV.pick {c x y : Operand} {b : Bool} {v u : Value} (ho : o.op = .pick c x y) (hc : ev l c = some (.bool b)) (hx : ev l x = some v) (hy : ev l y = some u) :
    PV P n w0 F l H o (if b then v else u) := fun a w ha _ => by
  simp only [execOp, ho, ha.ev hx, ha.ev hy, ha.ev hc]; cases b <;> rfl

theorem PV.not {t : TypeId} {x : Operand} {b : Bool} (ho : o.op = .unOp .not t x) (hx : ev l x = some (.bool b)) : PV P n w0 F l H o (.bool (!b)) := fun a w ha _ => by
  simp only [execOp, ho, ha.ev hx]; rfl
theorem PV.neg {t : TypeId} {x : Operand} {m : Int} (ho : o.op = .unOp .neg t x) (hx : ev l x = some (.int .i64 m)) (hr : -9223372036854775807 ≤ m ∧ m ≤ 9223372036854775807) :
    PV P n w0 F l H o (.int .i64 (-m)) := fun a w ha _ => by
  have : IntKind.i64.wrap (-m) = -m := by rw [IntKind.wrap_i64]; omega
  simp [execOp, ho, ha.ev hx, Op.unary, Op.intArith, this]

section
variable {t t' : TypeId} {x y : Operand} {k : IntKind} {p q : Int}
theorem PV.bin {op : BinOp} {u v r : Value} (ho : o.op = .binOp op t x y t') (hx : ev l x = some u) (hy : ev l y = some v) (hg : eqGuard op t x y u v = Pure.pure ()) (h : ∀ w, (binOp op t u v).run P w = .ok r w) :
    PV P n w0 F l H o r := fun a w ha _ => by
  simp [execOp, ho, ha.ev hx, ha.ev hy, hg, h w]
theorem PV.eql (ho : o.op = .binOp .eql t x y t') (hx : ev l x = some (.int k p)) (hy : ev l y = some (.int k q)) : PV P n w0 F l H o (.bool (decide (p = q))) :=
  PV.bin ho hx hy eg_int fun w => by rw [binOp_eql]; rfl
theorem PV.neq (ho : o.op = .binOp .neq t x y t') (hx : ev l x = some (.int k p)) (hy : ev l y = some (.int k q)) : PV P n w0 F l H o (.bool (!decide (p = q))) :=
  PV.bin ho hx hy eg_int fun w => by rw [binOp_neq]; rfl
theorem PV.lss (ho : o.op = .binOp .lss t x y t') (hx : ev l x = some (.int k p)) (hy : ev l y = some (.int k q)) : PV P n w0 F l H o (.bool (decide (p < q))) :=
  PV.bin ho hx hy eg_int fun w => by rw [binOp_lss]; rfl
theorem PV.leq (ho : o.op = .binOp .leq t x y t') (hx : ev l x = some (.int k p)) (hy : ev l y = some (.int k q)) : PV P n w0 F l H o (.bool (decide (p ≤ q))) :=
  PV.bin ho hx hy eg_int fun w => by rw [binOp_leq]; rfl
theorem PV.gtr (ho : o.op = .binOp .gtr t x y t') (hx : ev l x = some (.int k p)) (hy : ev l y = some (.int k q)) : PV P n w0 F l H o (.bool (decide (q < p))) :=
  PV.bin ho hx hy eg_int fun w => by rw [binOp_gtr]; rfl
theorem PV.geq (ho : o.op = .binOp .geq t x y t') (hx : ev l x = some (.int k p)) (hy : ev l y = some (.int k q)) : PV P n w0 F l H o (.bool (decide (q ≤ p))) :=
  PV.bin ho hx hy eg_int fun w => by rw [binOp_geq]; rfl
theorem PV.beq {b c : Bool} (hT : P.underlying t = some .bool) (ho : o.op = .binOp .eql t x y t') (hx : ev l x = some (.bool b)) (hy : ev l y = some (.bool c)) : PV P n w0 F l H o (.bool (b == c)) :=
  PV.bin ho hx hy eg_bool fun w => by rw [run_eql_bool w t b c hT]
theorem PV.bne {b c : Bool} (hT : P.underlying t = some .bool) (ho : o.op = .binOp .neq t x y t') (hx : ev l x = some (.bool b)) (hy : ev l y = some (.bool c)) : PV P n w0 F l H o (.bool (!(b == c))) :=
  PV.bin ho hx hy eg_bool fun w => by rw [run_neq_bool w t b c hT]
theorem PV.seq {b c : List UInt8} (ho : o.op = .binOp .eql t x y t') (hx : ev l x = some (sv b)) (hy : ev l y = some (sv c)) : PV P n w0 F l H o (.bool (decide (b = c))) :=
  PV.bin ho hx hy eg_str fun w => by unfold sv; rw [binOp_string_eql, ByteArray.toList_mk, ByteArray.toList_mk, beq_dec]; rfl
theorem PV.sne {b c : List UInt8} (ho : o.op = .binOp .neq t x y t') (hx : ev l x = some (sv b)) (hy : ev l y = some (sv c)) : PV P n w0 F l H o (.bool (!decide (b = c))) :=
  PV.bin ho hx hy eg_str fun w => by unfold sv; rw [binOp_string_neq, ByteArray.toList_mk, ByteArray.toList_mk, beq_dec]; rfl

theorem PV.add (ho : o.op = .binOp .add t x y t') (hx : ev l x = some (.int k p)) (hy : ev l y = some (.int k q)) : PV P n w0 F l H o (.int k (k.wrap (p + q))) :=
  PV.bin ho hx hy eg_int fun w => by rw [binOp_add]; rfl
theorem PV.sub (ho : o.op = .binOp .sub t x y t') (hx : ev l x = some (.int k p)) (hy : ev l y = some (.int k q)) : PV P n w0 F l H o (.int k (k.wrap (p - q))) :=
  PV.bin ho hx hy eg_int fun w => by rw [binOp_sub]; rfl
theorem PV.mul (ho : o.op = .binOp .mul t x y t') (hx : ev l x = some (.int k p)) (hy : ev l y = some (.int k q)) : PV P n w0 F l H o (.int k (k.wrap (p * q))) :=
  PV.bin ho hx hy eg_int fun w => by rw [binOp_mul]; rfl
theorem PV.add_i64 (ho : o.op = .binOp .add t x y t') (hx : ev l x = some (.int .i64 p)) (hy : ev l y = some (.int .i64 q)) (hr : -9223372036854775808 ≤ p + q ∧ p + q ≤ 9223372036854775807) :
    PV P n w0 F l H o (.int .i64 (p + q)) := by
  have h := PV.add (P := P) (n := n) (w0 := w0) (F := F) (H := H) ho hx hy
  rwa [show IntKind.i64.wrap (p + q) = p + q by rw [IntKind.wrap_i64]; omega] at h
theorem PV.sub_i64 (ho : o.op = .binOp .sub t x y t') (hx : ev l x = some (.int .i64 p)) (hy : ev l y = some (.int .i64 q)) (hr : -9223372036854775808 ≤ p - q ∧ p - q ≤ 9223372036854775807) :
    PV P n w0 F l H o (.int .i64 (p - q)) := by
  have h := PV.sub (P := P) (n := n) (w0 := w0) (F := F) (H := H) ho hx hy
  rwa [show IntKind.i64.wrap (p - q) = p - q by rw [IntKind.wrap_i64]; omega] at h
theorem PV.mul_i64 (ho : o.op = .binOp .mul t x y t') (hx : ev l x = some (.int .i64 p)) (hy : ev l y = some (.int .i64 q)) (hr : -9223372036854775808 ≤ p * q ∧ p * q ≤ 9223372036854775807) :
    PV P n w0 F l H o (.int .i64 (p * q)) := by
  have h := PV.mul (P := P) (n := n) (w0 := w0) (F := F) (H := H) ho hx hy
  rwa [show IntKind.i64.wrap (p * q) = p * q by rw [IntKind.wrap_i64]; generalize p * q = r at *; omega] at h
theorem PV.quo_i64 (ho : o.op = .binOp .quo t x y t') (hx : ev l x = some (.int .i64 p)) (hy : ev l y = some (.int .i64 q)) (hp : 0 ≤ p ∧ p ≤ 9223372036854775807) (hq : 0 < q) :
    PV P n w0 F l H o (.int .i64 (p / q)) :=
  PV.bin ho hx hy eg_int fun w => by
    have h1 : p.tdiv q = p / q := Int.tdiv_eq_ediv_of_nonneg hp.1
    have h2 : 0 ≤ p / q := Int.ediv_nonneg hp.1 (by omega)
    have h3 : p / q ≤ p := Int.ediv_le_self _ hp.1
    have : IntKind.i64.wrap (p / q) = p / q := by rw [IntKind.wrap_i64]; omega
    rw [binOp_quo]
    simp [Op.intDiv, show q ≠ 0 by omega, h1, this]
theorem PV.rem_i64 (ho : o.op = .binOp .rem t x y t') (hx : ev l x = some (.int k p)) (hy : ev l y = some (.int k q)) (hp : 0 ≤ p) (hq : 0 < q) :
    PV P n w0 F l H o (.int k (p % q)) :=
  PV.bin ho hx hy eg_int fun w => by
    have h1 : p.tmod q = p % q := Int.tmod_eq_emod_of_nonneg hp
    rw [binOp_rem]
    simp [Op.intDiv, show q ≠ 0 by omega, h1]
end

theorem PV.conv {src dst : TypeId} {x : Operand} {k k' : IntKind} {p : Int} (hT : P.underlying src = some (.int k)) (hT' : P.underlying dst = some (.int k')) (ho : o.op = .convert src dst x) (hx : ev l x = some (.int k p)) :
    PV P n w0 F l H o (.int k' (k'.wrap p)) := fun a w ha _ => by
  simp [execOp, ho, ha.ev hx, convert, run_underlying hT, run_underlying hT', Conv.intToInt]

theorem PV.extract {x : Operand} {i : Nat} {vs : Array Value} {v : Value} (ho : o.op = .extract x i) (hx : ev l x = some (.tuple vs)) (hv : vs[i]? = some v) : PV P n w0 F l H o v := fun a w ha _ => by
  simp [execOp, ho, ha.ev hx, Instr.extract, hv]

theorem PV.len {x : Operand} {t : TypeId} {A : Option Addr} {m c : Nat} (hT : P.underlying t = some (.slice (P.elem t))) (ho : o.op = .call { callee := .builtin .len, args := #[x], argTypes := #[t] }) (hx : ev l x = some (.slice A m c)) :
    PV P n w0 F l H o (.int .i64 m) := fun a w ha _ => by
  simp [execOp, ho, resolve, invoke, builtin, ha.ev hx, run_len_slice w t o.type A m c hT, goInt]

/-- a field of a struct value; a struct or an array put together: by a run that the program's tables decide. -/
theorem PV.run {v : Value} (h : ∀ a w, Ag n l a → (execOp a.eval o).run P w = .ok (.value v) w) : PV P n w0 F l H o v := fun a w ha _ => h a w ha

theorem PV.build {t : TypeId} {ps : List (Nat × Operand)} {vs : List Value} {v : Value} (ho : o.op = .build t ps.toArray) (hx : evs l (ps.map (·.2)) = some vs)
    (h : ∀ w, (Instr.build t ((ps.map (·.1)).zip vs).toArray).run P w = .ok v w) : PV P n w0 F l H o v := fun a w ha _ => by
  have hv := ha.evs hx
  have hz : (ps.map fun p => (p.1, a.eval p.2)) = (ps.map (·.1)).zip vs := by
    rw [← hv, List.map_map]
    clear hv hx h ho
    induction ps with
    | nil => rfl
    | cons p r ih => simp [ih]
  simp [execOp, ho, hz, h w]

theorem PV.field {t : TypeId} {x : Operand} {i : Nat} {u v : Value} (ho : o.op = .field t x i) (hx : ev l x = some u) (h : ∀ w, (Instr.field t u i).run P w = .ok v w) : PV P n w0 F l H o v := fun a w ha _ => by
  simp [execOp, ho, ha.ev hx, h w]

/-! ### Addresses -/
/-- the field f of a struct type lies 'off' cells behind its head. -/
def FA (P : Program) (s f off : Nat) : Prop := ∀ (b i : Nat) (w : World), (Instr.fieldAt s (.pointer (some ⟨b, i, none⟩)) f).run P w = .ok (.pointer (some ⟨b, i + off, none⟩)) w

theorem PV.fieldAddr {s f off : Nat} {x : Operand} {b i : Nat} (hF : FA P s f off) (ho : o.op = .fieldAddr s x f) (hx : ev l x = some (.pointer (some ⟨b, i, none⟩))) :
    PV P n w0 F l H o (.pointer (some ⟨b, i + off, none⟩)) := fun a w ha _ => by
  simp [execOp, ho, ha.ev hx, hF b i w]

/-- the address of the k-th cell of a slice. -/
def eptr (A : Option Addr) (k : Nat) : Value := .pointer (A.map (·.add k))

/-- old memory that the function may only read: the slice at A has these cells. -/
def Rd (w : World) (G : Nat → Prop) (A : Option Addr) (xs : List Value) : Prop :=
  0 < xs.length → ∃ ad, A = some ad ∧ G ad.block ∧ ∀ j u, xs[j]? = some u → w.cell? (ad.add j) = some u

theorem Rd.isSome {w : World} {G : Nat → Prop} {A : Option Addr} {xs : List Value} (h : Rd w G A xs) {j : Nat} (hj : j < xs.length) : A.isSome = true := by
  obtain ⟨ad, rfl, _⟩ := h (by omega); rfl

theorem Addr.add_block (a : Addr) (j : Nat) : (a.add j).block = a.block := by unfold Addr.add; split <;> rfl

theorem HA.rd {w : World} (h : HA w0 F H w) {A : Option Addr} {xs : List Value} (hr : Rd w0 F A xs) : Rd w (Old w) A xs := fun hx => by
  obtain ⟨ad, rfl, hg, hc⟩ := hr hx
  refine ⟨ad, rfl, Nat.lt_of_lt_of_le (h.flt _ hg) h.size, fun j u hu => ?_⟩
  rw [World.cell?_of_block (w := w0) (a := ad.add j) (by rw [Addr.add_block]; exact h.kept _ hg)]
  exact hc j u hu

/-! ### Chunks -/
/-- block B holds just these cells, of element type T. -/
def HP.blk (B T : Nat) (cs : List Value) : HP where
  sem S w := (∀ k, S k ↔ k = B) ∧ w.heap[B]? = some (.cells cs.toArray T (0, 0))
  loc := fun _ _ _ h ⟨h1, h2⟩ => ⟨h1, by rw [h B ((h1 B).2 rfl)]; exact h2⟩

theorem ownsRow_of {w w' : World} {b e sz : Nat} {v : Value} {m : Nat} {xs : List Value} (h : w.ownsRow b e sz v m xs) (hk : ∀ k, v.ownBlock = some k → w'.heap[k]? = w.heap[k]?) : w'.ownsRow b e sz v m xs := by
  obtain ⟨h1, h2⟩ := h
  refine ⟨h1, ?_⟩
  rcases h2 with h2 | ⟨g, cap, cur, rfl, hb, hg, hr⟩
  · exact .inl h2
  · exact .inr ⟨g, cap, cur, rfl, hb, by rw [hk g rfl]; exact hg, hr⟩

/-- a slice of the function's own: its block is nobody else's. -/
def HP.row (E sz : Nat) (A : Option Addr) (m c : Nat) (xs : List Value) : HP where
  sem S w := (∀ k, S k ↔ (Value.slice A m c).ownBlock = some k) ∧ w.ownsRow 0 E sz (.slice A m c) m xs
  loc := fun _ _ _ h ⟨h1, h2⟩ => ⟨h1, ownsRow_of h2 fun k hk => h k ((h1 k).2 hk)⟩

theorem HA.sel {w : World} (h : HA w0 F H w) {i : Nat} {p : HP} {H' : List HP} (hi : E.sel H i = some (p, H')) : HA w0 F (p :: H') w := h.perm (sel_perm hi)

theorem HA.blk {w : World} (h : HA w0 F H w) {i B T : Nat} {cs : List Value} {H' : List HP} (hi : E.sel H i = some (HP.blk B T cs, H')) : w.heap[B]? = some (.cells cs.toArray T (0, 0)) := by
  obtain ⟨S, h1, _⟩ := (h.sel hi).chunks
  exact h1.2

theorem HA.row {w : World} (h : HA w0 F H w) {i Et sz m c : Nat} {A : Option Addr} {xs : List Value} {H' : List HP} (hi : E.sel H i = some (HP.row Et sz A m c xs, H')) : w.ownsRow 0 Et sz (.slice A m c) m xs := by
  obtain ⟨S, h1, _⟩ := (h.sel hi).chunks
  exact h1.2

theorem rd_of_owns {w : World} {Et sz m c : Nat} {A : Option Addr} {xs : List Value} (h : w.ownsRow 0 Et sz (.slice A m c) m xs) : Rd w (Old w) A xs := by
  intro hx
  rcases h.2 with ⟨hv, hm⟩ | ⟨g, cap, cur, hv, _, hg, _, _, hsz, ht⟩
  · have h1 := h.1
    subst hm
    simp only [Nat.zero_mul] at h1
    omega
  · injection hv with h1 h2 h3
    subst h1
    refine ⟨_, rfl, (Array.getElem?_eq_some_iff.1 hg).1, fun j u hu => ?_⟩
    have hadd : (⟨g, 0, none⟩ : Addr).add j = ⟨g, j, none⟩ := by unfold Addr.add; split <;> simp_all
    rw [hadd, cell_of_row w g j cur Et (0, 0) hg]
    rw [← ht, List.getElem?_take] at hu
    split at hu
    · simpa using hu
    · cases hu

theorem HA.rdrow {w : World} (h : HA w0 F H w) {i Et sz m c : Nat} {A : Option Addr} {xs : List Value} {H' : List HP} (hi : E.sel H i = some (HP.row Et sz A m c xs, H')) : Rd w (Old w) A xs := rd_of_owns (h.row hi)

theorem pair_eq {s t : Nat} {X Y X' Y' : Int} (h1 : X = X') (h2 : Y = Y') : [(s, Value.int .i64 X), (t, .int .i64 Y)] = [(s, .int .i64 X'), (t, .int .i64 Y')] := by rw [h1, h2]
theorem tn {i : Int} (h : 0 ≤ i) : i = ((i.toNat : Nat) : Int) := (Int.toNat_of_nonneg h).symm
theorem rdc {A : Option Addr} {xs : List Value} (h : Rd w0 F A xs) : ∀ w, HA w0 F H w → Rd w (Old w) A xs := fun _ hw => hw.rd h
theorem rdr {i Et sz m c : Nat} {A : Option Addr} {xs : List Value} {H' : List HP} (hi : E.sel H i = some (HP.row Et sz A m c xs, H')) : ∀ w, HA w0 F H w → Rd w (Old w) A xs := fun _ hw => hw.rdrow hi

/-! ### Loads -/
/-- a type of one cell; a struct or array type of sz cells. -/
def Na (P : Program) (t : TypeId) : Prop := ∀ w, (isAgg t).run P w = .ok false w
def Is (P : Program) (t : TypeId) (sz : Nat) : Prop := (∀ w, (isAgg t).run P w = .ok true w) ∧ ∀ w, (sizeOf t).run P w = .ok sz w

theorem PV.load {t : TypeId} {x : Operand} {B T j i : Nat} {cs : List Value} {v : Value} {H' : List HP} (ht : Na P t) (ho : o.op = .load t x) (hx : ev l x = some (.pointer (some ⟨B, j, none⟩)))
    (hi : sel H i = some (HP.blk B T cs, H')) (hv : cs[j]? = some v) : PV P n w0 F l H o v := fun a w ha hw => by
  have hb := hw.blk hi
  have hc : w.cell? ⟨B, j, none⟩ = some v := by rw [cell_of_row w B j _ T (0, 0) hb]; simpa using hv
  simp [execOp, ho, ha.ev hx, Instr.loadAt, Instr.sureAddr, loadVar, ht w, hc]

/-- sz cells from place j on. -/
def slc : List Value → Nat → Nat → Option (List Value)
  | _, 0, 0 => some []
  | [], _, _ => none
  | v :: r, 0, m + 1 => match slc r 0 m with
    | some s => some (v :: s)
    | none => none
  | _ :: r, j + 1, m => slc r j m

theorem slc_spec : ∀ {cs : List Value} {j m : Nat} {vs : List Value}, slc cs j m = some vs → vs.length = m ∧ ∀ i v, vs[i]? = some v → cs[j + i]? = some v := by
  intro cs
  induction cs with
  | nil =>
    intro j m vs h
    cases j <;> cases m <;> simp [slc] at h
    subst h
    simp
  | cons u r ih =>
    intro j m vs h
    cases j with
    | zero =>
      cases m with
      | zero => simp only [slc, Option.some.injEq] at h; subst h; simp
      | succ m =>
        unfold slc at h
        split at h
        · rename_i s hs
          simp only [Option.some.injEq] at h
          subst h
          obtain ⟨h1, h2⟩ := ih hs
          refine ⟨by simp [h1], fun i v hv => ?_⟩
          cases i with
          | zero => simpa using hv
          | succ i =>
            have := h2 i v (by simpa using hv)
            simp only [Nat.zero_add] at this ⊢
            simpa using this
        · cases h
    | succ j =>
      simp only [slc] at h
      obtain ⟨h1, h2⟩ := ih h
      refine ⟨h1, fun i v hv => ?_⟩
      have := h2 i v hv
      rw [show j + 1 + i = (j + i) + 1 by omega, List.getElem?_cons_succ]
      exact this

theorem run_loadVar_is {w : World} {t : TypeId} {ad : Addr} {vs : List Value} (ht : Is P t vs.length) (hc : ∀ i v, vs[i]? = some v → w.cell? (ad.add i) = some v) :
    (loadVar t ad).run P w = .ok (.agg vs.toArray) w := by
  have hl : (loadCells ad vs.length).run P w = .ok vs.toArray w := run_loadCells_list (P := P) w _ vs hc
  simp [loadVar, ht.1 w, ht.2 w, hl]

theorem PV.loads {t : TypeId} {x : Operand} {B T j i sz : Nat} {cs vs : List Value} {H' : List HP} (ht : Is P t sz) (ho : o.op = .load t x) (hx : ev l x = some (.pointer (some ⟨B, j, none⟩)))
    (hi : sel H i = some (HP.blk B T cs, H')) (hv : slc cs j sz = some vs) : PV P n w0 F l H o (.agg vs.toArray) := fun a w ha hw => by
  have hb := hw.blk hi
  obtain ⟨h1, h2⟩ := slc_spec hv
  subst h1
  have hr := run_loadVar_is (w := w) (ad := ⟨B, j, none⟩) ht fun i v hv => by
    have hadd : (⟨B, j, none⟩ : Addr).add i = ⟨B, j + i, none⟩ := by unfold Addr.add; split <;> simp_all
    rw [hadd, cell_of_row w B (j + i) _ T (0, 0) hb]
    simpa using h2 i v hv
  simp [execOp, ho, ha.ev hx, Instr.loadAt, Instr.sureAddr, hr]

theorem PV.load_of {t : TypeId} {x : Operand} {A : Option Addr} {k : Nat} {v : Value} {xs : List Value} (hR : ∀ w, HA w0 F H w → Rd w (Old w) A xs) (ht : Na P t) (ho : o.op = .load t x) (hx : ev l x = some (eptr A k))
    (hv : xs[k]? = some v) : PV P n w0 F l H o v := fun a w ha hw => by
  have hlt : k < xs.length := by
    rcases Nat.lt_or_ge k xs.length with h | h
    · exact h
    · rw [List.getElem?_eq_none h] at hv; cases hv
  obtain ⟨ad, rfl, _, hc⟩ := hR w hw (by omega)
  have hx' : ev l x = some (.pointer (some (ad.add k))) := hx
  simp [execOp, ho, ha.ev hx', Instr.loadAt, Instr.sureAddr, loadVar, ht w, hc k v hv]

theorem Addr.add_add' (a : Addr) (i j : Nat) : (a.add i).add j = a.add (i + j) := by
  unfold Addr.add
  by_cases hi : i = 0 <;> by_cases hj : j = 0 <;> simp [hi, hj, Nat.add_assoc]

theorem PV.loads_of {t : TypeId} {x : Operand} {A : Option Addr} {k : Nat} {vs xs : List Value} (hR : ∀ w, HA w0 F H w → Rd w (Old w) A xs) (ht : Is P t vs.length) (hp : 0 < vs.length) (ho : o.op = .load t x) (hx : ev l x = some (eptr A k))
    (hv : ∀ i v, vs[i]? = some v → xs[k + i]? = some v) : PV P n w0 F l H o (.agg vs.toArray) := fun a w ha hw => by
  have h0 := hv 0 (vs[0]) (by simp [hp])
  have hlt : k < xs.length := by
    rcases Nat.lt_or_ge k xs.length with h | h
    · exact h
    · rw [List.getElem?_eq_none (by omega)] at h0; cases h0
  obtain ⟨ad, rfl, _, hc⟩ := hR w hw (by omega)
  have hx' : ev l x = some (.pointer (some (ad.add k))) := hx
  have hr := run_loadVar_is (w := w) (ad := ad.add k) ht fun i v h => by rw [Addr.add_add']; exact hc _ v (hv i v h)
  simp [execOp, ho, ha.ev hx', Instr.loadAt, Instr.sureAddr, hr]

/-! ### New blocks and stores -/
theorem Chunks.new_blk {w : World} {T : Nat} {cs : List Value} : Chunks (w.alloc (.cells cs.toArray T)) (fun k => k < w.heap.size) [HP.blk w.heap.size T cs] :=
  ⟨fun k => k = w.heap.size, ⟨fun _ => Iff.rfl, heap_alloc_new w _⟩, fun k hk => by subst hk; simp, trivial⟩

theorem HA.new {w : World} (h : HA w0 F H w) (ob : Obj) {Hn : List HP} (hn : Chunks (w.alloc ob) (fun k => k < w.heap.size) Hn) : HA w0 F (Hn ++ H) (w.alloc ob) :=
  h.make rfl rfl rfl (by simp) (fun k hk => Below.heap_alloc w ob k hk) hn

theorem OW.box {ops : Array Oper} {rest : List Oper} {d : Nat} {t : TypeId} {x : Operand} {v : Value} {cs : List Value} (ho : o.op = .box t x) (hg : gd ops l o.guard = some true) (hd : o.dst = some d) (hn : Nat.blt d n = true)
    (hx : ev l x = some v) (hc : v.cells = cs.toArray) (k : ∀ B, OW P n w0 F ops K rest ((d, .pointer (some ⟨B, 0, none⟩)) :: l) (HP.blk B t cs :: H)) : OW P n w0 F ops K (o :: rest) l H :=
  OW.step hg hd hn (fun v H' => ∃ B, v = .pointer (some ⟨B, 0, none⟩) ∧ H' = HP.blk B t cs :: H)
    (fun a w ha hw => ⟨_, w.alloc (.cells cs.toArray t), _, by simp [execOp, ho, ha.ev hx, Instr.box, newVar, newRow, newObj, Sem.run, hc], ⟨w.heap.size, rfl, rfl⟩, hw.new _ Chunks.new_blk⟩)
    (fun v H' ⟨B, hv, hH⟩ => by subst hv hH; exact k B)

/-- the zero value of a type. -/
def Zr (P : Program) (t : TypeId) (z : Value) : Prop := ∀ w, (zeroValue t).run P w = .ok z w

theorem OW.alloc {ops : Array Oper} {rest : List Oper} {d : Nat} {t : TypeId} {z : Value} {cs : List Value} (hz : Zr P t z) (ho : o.op = .alloc t) (hg : gd ops l o.guard = some true) (hd : o.dst = some d) (hn : Nat.blt d n = true)
    (hc : z.cells = cs.toArray) (k : ∀ B, OW P n w0 F ops K rest ((d, .pointer (some ⟨B, 0, none⟩)) :: l) (HP.blk B t cs :: H)) : OW P n w0 F ops K (o :: rest) l H :=
  OW.step hg hd hn (fun v H' => ∃ B, v = .pointer (some ⟨B, 0, none⟩) ∧ H' = HP.blk B t cs :: H)
    (fun a w ha hw => ⟨_, w.alloc (.cells cs.toArray t), _, by simp [execOp, ho, Instr.alloc, hz w, newVar, newRow, newObj, Sem.run, hc], ⟨w.heap.size, rfl, rfl⟩, hw.new _ Chunks.new_blk⟩)
    (fun v H' ⟨B, hv, hH⟩ => by subst hv hH; exact k B)

/-- cells written from place j on. -/
def wr : List Value → Nat → List Value → Option (List Value)
  | r, 0, [] => some r
  | [], _, _ => none
  | _ :: r, 0, v :: vs => match wr r 0 vs with
    | some s => some (v :: s)
    | none => none
  | u :: r, j + 1, vs => match wr r j vs with
    | some s => some (u :: s)
    | none => none

theorem wr_spec : ∀ {cs : List Value} {j : Nat} {vs cs' : List Value}, wr cs j vs = some cs' → j + vs.length ≤ cs.length ∧ cs' = cs.take j ++ vs ++ cs.drop (j + vs.length) := by
  intro cs
  induction cs with
  | nil =>
    intro j vs cs' h
    cases j <;> cases vs <;> simp [wr] at h
    subst h
    simp
  | cons u r ih =>
    intro j vs cs' h
    cases j with
    | zero =>
      cases vs with
      | nil => simp only [wr, Option.some.injEq] at h; subst h; simp
      | cons v vs =>
        unfold wr at h
        split at h
        · rename_i s hs
          simp only [Option.some.injEq] at h
          subst h
          obtain ⟨h1, h2⟩ := ih hs
          subst h2
          constructor
          · simp only [List.length_cons] at h1 ⊢; omega
          · simp
        · cases h
    | succ j =>
      have key : ∀ s, wr r j vs = some s → cs' = u :: s → j + 1 + vs.length ≤ (u :: r).length ∧ cs' = (u :: r).take (j + 1) ++ vs ++ (u :: r).drop (j + 1 + vs.length) := by
        intro s hs he
        obtain ⟨h1, h2⟩ := ih hs
        subst h2
        subst he
        constructor
        · simp only [List.length_cons]; omega
        · rw [show j + 1 + vs.length = (j + vs.length) + 1 by omega]; simp
      cases vs with
      | nil =>
        unfold wr at h
        split at h
        · rename_i s hs; simp only [Option.some.injEq] at h; exact key s hs h.symm
        · cases h
      | cons v vs =>
        unfold wr at h
        split at h
        · rename_i s hs; simp only [Option.some.injEq] at h; exact key s hs h.symm
        · cases h

theorem HA.setRow {w : World} {B T : Nat} {cs cs' : List Value} (h : HA w0 F (HP.blk B T cs :: H) w) : HA w0 F (HP.blk B T cs' :: H) (w.setRow B cs'.toArray) := by
  refine h.write (Hn := [HP.blk B T cs']) fun S hS hB => ⟨rfl, rfl, rfl, by simp [World.setRow], fun k hlt hk => ?_, S, ⟨hS.1, setRow_heap w B cs.toArray _ T _ hS.2⟩, fun k hk => ?_, trivial⟩
  · have : k ≠ B := fun e => hk ((hS.1 k).2 e)
    simp only [World.setRow, Array.getElem?_modify]
    rw [if_neg (fun e => this e.symm)]
  · exact ⟨by simpa [World.setRow] using (hB k hk).1, fun hn => hn.2 hk⟩

theorem OW.store {ops : Array Oper} {rest : List Oper} {t : TypeId} {x y : Operand} {B T j i : Nat} {v : Value} {cs vs cs' : List Value} {H' : List HP} (hsz : ∀ w, (sizeOf t).run P w = .ok vs.length w) (ho : o.op = .store t x y)
    (hg : gd ops l o.guard = some true) (hd : o.dst = none) (hx : ev l x = some (.pointer (some ⟨B, j, none⟩))) (hy : ev l y = some v) (hc : v.cells = vs.toArray) (h1 : vs.all (·.oneCell') = true)
    (hi : sel H i = some (HP.blk B T cs, H')) (hw' : wr cs j vs = some cs') (k : OW P n w0 F ops K rest l (HP.blk B T cs' :: H')) : OW P n w0 F ops K (o :: rest) l H :=
  OW.act hg hd (fun a w ha hw => by
    have hb := hw.blk hi
    obtain ⟨h2, h3⟩ := wr_spec hw'
    have hst := run_storeCells_at P B j T vs 0 cs.toArray w hb (by simpa using h2) (fun v hv => by simpa using (List.all_eq_true.1 h1) v hv)
    refine ⟨w.setRow B cs'.toArray, ?_, (hw.sel hi).setRow⟩
    subst h3
    simp [execOp, ho, ha.ev hx, ha.ev hy, Instr.storeAt, Instr.sureAddr, storeVar, hc, hsz w]
    simp at hst
    rw [hst]
    rfl) k

/-! ### Slices of the function's own -/
theorem HA.nilrow {w : World} (h : HA w0 F H w) (Et sz : Nat) : HA w0 F (HP.row Et sz .none 0 0 [] :: H) w :=
  { h with chunks := ⟨fun _ => False, ⟨fun k => by simp [Value.ownBlock], World.ownsRow_nil w 0 Et sz⟩, fun _ hk => hk.elim, h.chunks.congr fun k => by simp⟩ }
theorem OW.nilrow {ops : Array Oper} {rest : List Oper} (Et sz : Nat) (k : OW P n w0 F ops K rest l (HP.row Et sz none 0 0 [] :: H)) : OW P n w0 F ops K rest l H := fun a w ha hw => k a w ha (hw.nilrow Et sz)
theorem CW.nilrow {c : Code} (Et sz : Nat) (k : CW P n w0 F c K l (HP.row Et sz none 0 0 [] :: H)) : CW P n w0 F c K l H := fun a w ha hw => k a w ha (hw.nilrow Et sz)
theorem OW.drop {ops : Array Oper} {rest : List Oper} (i : Nat) {p : HP} {H' : List HP} (hi : sel H i = some (p, H')) (k : OW P n w0 F ops K rest l H') : OW P n w0 F ops K rest l H := fun a w ha hw => k a w ha (hw.sel hi).drop
theorem OW.sels {ops : Array Oper} {rest : List Oper} (is : List Nat) {H' : List HP} (hs : E.sels H is = some H') (k : OW P n w0 F ops K rest l H') : OW P n w0 F ops K rest l H :=
  fun a w ha hw => k a w ha { hw with chunks := sels_chunks hs hw.chunks }

/-- a type's zero value, size in cells and bytes, as the append law asks them. -/
def In (P : Program) (t : TypeId) (z : Value) (sz bytes : Nat) : Prop := (P.info? t).map (fun i => (i.zero, i.size, i.bytes)) = some (some z, sz, bytes)

theorem In.parts {t : TypeId} {z : Value} {sz bytes : Nat} (h : In P t z sz bytes) : ∃ i, P.info? t = some i ∧ i.zero = some z ∧ i.size = sz ∧ i.bytes = bytes := by
  unfold In at h
  cases hi : P.info? t with
  | none => rw [hi] at h; simp at h
  | some i => rw [hi] at h; simp at h; exact ⟨i, rfl, h.1, h.2.1, h.2.2⟩
theorem In.zr {t : TypeId} {z : Value} {sz bytes : Nat} (h : In P t z sz bytes) : Zr P t z := fun w => by
  obtain ⟨i, h1, h2, _, _⟩ := h.parts
  simp [zeroValue, typeInfo, h1, h2]
theorem In.size {t : TypeId} {z : Value} {sz bytes : Nat} (h : In P t z sz bytes) : ∀ w, (sizeOf t).run P w = .ok sz w := fun w => by
  obtain ⟨i, h1, _, h3, _⟩ := h.parts
  simp [sizeOf, typeInfo, h1, h3]
theorem In.cells {t : TypeId} {z : Value} {sz bytes : Nat} (h : In P t z sz bytes) : P.cellsOf t = sz := by
  obtain ⟨i, h1, _, h3, _⟩ := h.parts
  simp [Program.cellsOf, h1, h3]
theorem In.ex {t : TypeId} {z : Value} {sz bytes : Nat} (h : In P t z sz bytes) : ∃ q, P.info? t = some q := by
  obtain ⟨i, h1, _⟩ := h.parts
  exact ⟨i, h1⟩

/-- what an owned slice has become is again one chunk. -/
theorem HA.regrow {w w' : World} {Et sz : Nat} {A A' : Option Addr} {m c m' c' : Nat} {xs xs' : List Value} (h : HA w0 F (HP.row Et sz A m c xs :: H) w)
    (hg : w.grownBy w' (Value.slice A m c).ownBlock) (hown : w'.ownsRow 0 Et sz (.slice A' m' c') m' xs')
    (hb : (Value.slice A' m' c').ownBlock = (Value.slice A m c).ownBlock ∨ (Value.slice A' m' c').ownBlock = some w.heap.size) : HA w0 F (HP.row Et sz A' m' c' xs' :: H) w' := by
  refine h.write (Hn := [HP.row Et sz A' m' c' xs']) fun S hS hF => ⟨hg.os, hg.tape, hg.output, hg.size, fun k hlt hk => hg.block k hlt fun e => hk ((hS.1 k).2 e.symm), ?_⟩
  refine ⟨fun k => (Value.slice A' m' c').ownBlock = some k, ⟨fun _ => Iff.rfl, hown⟩, fun k hk => ⟨(hown.lt k hk).2, fun hn => ?_⟩, trivial⟩
  rcases hb with hb | hb
  · exact hn.2 ((hS.1 k).2 (by rw [← hb]; exact hk))
  · rw [hb] at hk
    injection hk with hk
    omega

theorem grown_refl (w : World) (row : Option Nat) : w.grownBy w row := ⟨rfl, rfl, rfl, Nat.le_refl _, fun _ _ _ => rfl⟩

/-- append: the slice is the chunk i, the source whatever can be read. -/
theorem OW.append {ops : Array Oper} {rest : List Oper} {d : Nat} {s x : Operand} {t Et i sz bytes m c m2 c2 : Nat} {z : Value} {zs : List Value} {A A2 : Option Addr} {xs ys : List Value} {H' : List HP}
    (hT : P.underlying t = some (.slice Et)) (hI : In P Et z sz bytes) (hz : z.cells = zs.toArray) (hzl : zs.length = sz) (hsz : 0 < sz)
    (ho : o.op = .call { callee := .builtin .append, args := #[s, x], argTypes := #[t, t] }) (hg : gd ops l o.guard = some true) (hd : o.dst = some d) (hn : Nat.blt d n = true)
    (hs : ev l s = some (.slice A m c)) (hx : ev l x = some (.slice A2 m2 c2)) (hi : sel H i = some (HP.row Et sz A m c xs, H'))
    (hR : ∀ w, HA w0 F H w → Rd w (Old w) A2 ys) (hl : ys.length = m2 * sz) (h1 : ∀ u ∈ ys, u.oneCell' = true)
    (h63 : m + m2 ≤ maxLen) (hb : (m + m2) * bytes ≤ 140737488355328)
    (k : ∀ A' c', OW P n w0 F ops K rest ((d, .slice A' (m + m2) c') :: l) (HP.row Et sz A' (m + m2) c' (xs ++ ys) :: H')) : OW P n w0 F ops K (o :: rest) l H := by
  refine OW.step hg hd hn (fun v H1 => ∃ A' c', v = .slice A' (m + m2) c' ∧ H1 = HP.row Et sz A' (m + m2) c' (xs ++ ys) :: H') (fun a w ha hw => ?_) (fun v H1 ⟨A', c', hv, hH⟩ => by subst hv hH; exact k A' c')
  obtain ⟨inf, hinf, hz0, hz1, hz2⟩ := hI.parts
  have hzs : z.cells.size = sz := by rw [hz]; simpa using hzl
  have hown := hw.row hi
  have hform : ∀ {v w'} {m' : Nat} {xs' : List Value}, World.ownsRow w' 0 Et sz v m' xs' → ∃ A' c', v = .slice A' m' c' := by
    intro v w' m' xs' h
    rcases h.2 with ⟨rfl, hm⟩ | ⟨g, cap, cur, rfl, _⟩
    · exact ⟨none, 0, by rw [hm]⟩
    · exact ⟨_, _, rfl⟩
  by_cases hm : m2 = 0
  · subst hm
    have hy : ys = [] := List.eq_nil_of_length_eq_zero (by simpa using hl)
    subst hy
    have hrun : (Builtin.append_ #[t, t] o.type #[.slice A m c, .slice A2 0 c2]).run P w = .ok (.slice A m c) w := by
      have hmc : m ≤ c := by
        rcases hown.2 with ⟨hv, hm⟩ | ⟨g, cap, cur, hv, _, _, hnc, _⟩
        · subst hm; omega
        · injection hv with _ _ hc; omega
      have hf : (Builtin.firstCells sz 0 (.slice A2 0 c2)).run P w = .ok #[] w := by
        cases A2 with
        | none => simp [Builtin.firstCells]
        | some ad => simp [Builtin.firstCells, loadCells, loadCellsFrom]
      cases A with
      | none => simp [Builtin.append_, run_underlying hT, sizeOf, typeInfo, hinf, hz1, Builtin.lenOf, hf, hmc]
      | some ad => simp [Builtin.append_, run_underlying hT, sizeOf, typeInfo, hinf, hz1, Builtin.lenOf, hf, hmc, storeCells]
    refine ⟨_, w, _, by simp [execOp, ho, resolve, invoke, builtin, ha.ev hs, ha.ev hx, hrun], ⟨A, c, rfl, rfl⟩, ?_⟩
    simpa using hw.sel hi
  · obtain ⟨ad, hA2, _, hc2⟩ := hR w hw (by rw [hl]; exact Nat.mul_pos (by omega) hsz)
    subst hA2
    obtain ⟨v', w', hrun, hown', hg', _, hblk⟩ := run_append_own_at (P := P) w 0 t o.type Et inf z sz bytes hT hinf hz0 hz1 hz2 hzs hsz (.slice A m c) m xs hown ad m2 c2 ys hl hc2 h1 h63 hb (Nat.zero_le _)
    obtain ⟨A', c', rfl⟩ := hform hown'
    refine ⟨_, w', _, by simp [execOp, ho, resolve, invoke, builtin, ha.ev hs, ha.ev hx, hrun], ⟨A', c', rfl, rfl⟩, ?_⟩
    exact (hw.sel hi).regrow hg' hown' hblk

theorem Chunks.new_row {w : World} {Et sz m : Nat} {cs : List Value} (hl : cs.length = m * sz) (hm : m ≤ maxLen) :
    Chunks (w.alloc (.cells cs.toArray Et)) (fun k => k < w.heap.size) [HP.row Et sz (some ⟨w.heap.size, 0, none⟩) m m cs] :=
  ⟨fun k => k = w.heap.size, ⟨fun k => by simp [Value.ownBlock, eq_comm], hl, .inr ⟨w.heap.size, m, cs.toArray, rfl, Nat.zero_le _, heap_alloc_new w _, Nat.le_refl _, hm, by simpa using hl, by simp [← hl]⟩⟩,
    fun k hk => by subst hk; simp, trivial⟩

/-- a slice literal. -/
theorem OW.buildSlice {ops : Array Oper} {rest : List Oper} {d : Nat} {t Et len sz : Nat} {ps : List (Nat × Operand)} {vs cs : List Value} (ho : o.op = .buildSlice t len ps.toArray)
    (hg : gd ops l o.guard = some true) (hd : o.dst = some d) (hn : Nat.blt d n = true) (hx : evs l (ps.map (·.2)) = some vs) (hl : cs.length = len * sz) (hm : len ≤ maxLen)
    (h : ∀ w, (Instr.buildSlice t len ((ps.map (·.1)).zip vs).toArray).run P w = .ok (.slice (some ⟨w.heap.size, 0, none⟩) len len) (w.alloc (.cells cs.toArray Et)))
    (k : ∀ A, OW P n w0 F ops K rest ((d, .slice A len len) :: l) (HP.row Et sz A len len cs :: H)) : OW P n w0 F ops K (o :: rest) l H :=
  OW.step hg hd hn (fun v H' => ∃ A, v = .slice A len len ∧ H' = HP.row Et sz A len len cs :: H)
    (fun a w ha hw => by
      have hv := ha.evs hx
      have hz : (ps.map fun p => (p.1, a.eval p.2)) = (ps.map (·.1)).zip vs := by
        rw [← hv, List.map_map]
        clear hv hx h ho k
        induction ps with
        | nil => rfl
        | cons p r ih => simp [ih]
      exact ⟨_, w.alloc (.cells cs.toArray Et), _, by simp [execOp, ho, hz, h w], ⟨_, rfl, rfl⟩, hw.new _ (Chunks.new_row hl hm)⟩)
    (fun v H' ⟨A, hv, hH⟩ => by subst hv hH; exact k A)

/-- make of a slice whose elements are one cell. -/
theorem OW.make {ops : Array Oper} {rest : List Oper} {d : Nat} {t Et bytes : Nat} {x y : Operand} {z : Value} {kx ky : IntKind} {px : Int} (m : Nat) (hT : P.underlying t = some (.slice Et)) (hI : In P Et z 1 bytes) (hz : z.cells = #[z])
    (ho : o.op = .makeSlice t x y) (hg : gd ops l o.guard = some true) (hd : o.dst = some d) (hn : Nat.blt d n = true) (hx : ev l x = some (.int kx px)) (hy : ev l y = some (.int ky px)) (hm : px = (m : Int))
    (hmax : m ≤ maxLen) (hb : bytes * m ≤ 281474976710656)
    (k : ∀ A, OW P n w0 F ops K rest ((d, .slice A m m) :: l) (HP.row Et 1 A m m (List.replicate m z) :: H)) : OW P n w0 F ops K (o :: rest) l H :=
  OW.step hg hd hn (fun v H' => ∃ A, v = .slice A m m ∧ H' = HP.row Et 1 A m m (List.replicate m z) :: H)
    (fun a w ha hw => by
      obtain ⟨inf, hinf, hz0, hz1, hz2⟩ := hI.parts
      subst hm hz2
      have hb' : (inf.bytes : Int) * (m : Int) ≤ 281474976710656 := by
        have h : ((inf.bytes * m : Nat) : Int) ≤ 281474976710656 := by omega
        rwa [Int.natCast_mul] at h
      have hmax' : (m : Int) ≤ 9223372036854775807 := by unfold maxLen at hmax; omega
      have hr := run_make (P := P) w t Et inf z hT hinf hz0 kx ky m m (by omega) (by omega) hb' hmax'
      have hcs : (madeCells z.cells (m * inf.size)) = (List.replicate m z).toArray := by
        rw [hz, hz1]
        apply Array.ext
        · simp [madeCells]
        · intro i h1 h2
          simp [madeCells, Nat.mod_one]
      simp only [Int.toNat_natCast, hcs] at hr
      exact ⟨_, _, _, by simp [execOp, ho, ha.ev hx, ha.ev hy, hr], ⟨_, rfl, rfl⟩, hw.new _ (Chunks.new_row (by simp) hmax)⟩)
    (fun v H' ⟨A, hv, hH⟩ => by subst hv hH; exact k A)

/-- a store into a slice of the function's own. -/
theorem OW.store_row {ops : Array Oper} {rest : List Oper} {t : TypeId} {x y : Operand} {Et i m c j : Nat} {A : Option Addr} {v : Value} {xs : List Value} {H' : List HP} (hsz : ∀ w, (sizeOf t).run P w = .ok 1 w) (ho : o.op = .store t x y)
    (hg : gd ops l o.guard = some true) (hd : o.dst = none) (hx : ev l x = some (eptr A j)) (hy : ev l y = some v) (hc : v.cells = #[v]) (h1 : v.oneCell' = true)
    (hi : sel H i = some (HP.row Et 1 A m c xs, H')) (hj : j < m) (k : OW P n w0 F ops K rest l (HP.row Et 1 A m c (xs.set j v) :: H')) : OW P n w0 F ops K (o :: rest) l H :=
  OW.act hg hd (fun a w ha hw => by
    have hown := hw.row hi
    rcases hown.2 with ⟨hv, hm⟩ | ⟨g, cap, cur, hv, _, hgg, hnc, hcap, hcs, htk⟩
    · omega
    · injection hv with hA _ hcc
      subst hA hcc
      have hx' : ev l x = some (.pointer (some ⟨g, j, none⟩)) := by
        rw [hx]
        unfold eptr
        simp only [Option.map_some, Option.some.injEq, Value.pointer.injEq]
        unfold Addr.add
        split <;> simp_all
      have hst := run_storeCells_at P g j Et [v] 0 cur w hgg (by simp; omega) (fun u hu => by simp at hu; subst hu; exact h1)
      refine ⟨w.setRow g (cur.toList.take j ++ [v] ++ cur.toList.drop (j + 1)).toArray, ?_, ?_⟩
      · simp [execOp, ho, ha.ev hx', ha.ev hy, Instr.storeAt, Instr.sureAddr, storeVar, hc, hsz w]
        simp at hst
        rw [hst]
        rfl
      · have hset : cur.toList.take j ++ [v] ++ cur.toList.drop (j + 1) = cur.toList.set j v := by
          rw [List.set_eq_take_append_cons_drop]
          rw [if_pos (by simp; omega)]
          simp
        refine (hw.sel hi).regrow (A := some ⟨g, 0, none⟩) (A' := some ⟨g, 0, none⟩) (m := m) (m' := m) (c := c) (c' := c) (xs := xs) ?_ ?_ (.inl rfl)
        · refine ⟨rfl, rfl, rfl, by simp [World.setRow], fun k hk hne => ?_⟩
          simp only [World.setRow, Array.getElem?_modify]
          rw [if_neg (fun e => hne (by simp [Value.ownBlock, e]))]
        · refine ⟨by simpa using hown.1, .inr ⟨g, c, _, rfl, Nat.zero_le _, setRow_heap w g cur _ Et _ hgg, hnc, hcap, ?_, ?_⟩⟩
          · rw [hset]; simpa using hcs
          · simp only [Nat.mul_one] at htk ⊢
            rw [hset, ← htk, List.take_set]) k

/-! ### Strings -/
def u8s (l : List UInt8) : List Value := l.map fun b => .int .u8 (b.toNat : Int)

theorem PV.b2s {src dst Et : TypeId} {x : Operand} {A : Option Addr} {m c : Nat} {bs : List UInt8} (hs : P.underlying src = some (.slice Et)) (he : P.underlying Et = some (.int .u8)) (hd : P.underlying dst = some .string)
    (hR : ∀ w, HA w0 F H w → Rd w (Old w) A (u8s bs)) (hm : m = bs.length) (ho : o.op = .convert src dst x) (hx : ev l x = some (.slice A m c)) : PV P n w0 F l H o (sv bs) := fun a w ha hw => by
  subst hm
  have hrun : (convert src dst (.slice A bs.length c)).run P w = .ok (sv bs) w := by
    rw [run_convert_bytes_string w src dst Et _ _ c hs he hd]
    cases bs with
    | nil => cases A with
      | none => simp [Conv.bytesToString, sv]; rfl
      | some ad => simp [Conv.bytesToString, sv, loadCells, loadCellsFrom]; rfl
    | cons b r =>
      obtain ⟨ad, rfl, _, hc⟩ := hR w hw (by simp [u8s])
      have hl := run_loadCells_list (P := P) w ad (u8s (b :: r)) hc
      have hlen : (u8s (b :: r)).length = (b :: r).length := by simp [u8s]
      rw [hlen] at hl
      have hb := run_bytesToString (P := P) w ad (b :: r).length c ((b :: r).map fun b => (b.toNat : Int)) (by rw [hl]; simp [u8s, Function.comp_def])
      rw [hb, foldl_push_bytes]
      simp [sv, Function.comp_def, ByteArray.empty, ByteArray.emptyWithCapacity]
      rfl
  simp [execOp, ho, ha.ev hx, hrun]

/-! ### Typed elements -/
def ints (l : List Int) : List Value := l.map (Value.int .i64)
@[simp] theorem ints_length (l : List Int) : (ints l).length = l.length := by simp [ints]
@[simp] theorem u8s_length (l : List UInt8) : (u8s l).length = l.length := by simp [u8s]
@[simp] theorem ints_nil : ints [] = [] := rfl
@[simp] theorem u8s_nil : u8s [] = [] := rfl
theorem ints_one {l : List Int} : ∀ u ∈ ints l, u.oneCell' = true := by
  intro u hu; simp only [ints, List.mem_map] at hu; obtain ⟨_, _, rfl⟩ := hu; rfl
theorem u8s_one {l : List UInt8} : ∀ u ∈ u8s l, u.oneCell' = true := by
  intro u hu; simp only [u8s, List.mem_map] at hu; obtain ⟨_, _, rfl⟩ := hu; rfl
theorem wrap_u8 (c : UInt8) : IntKind.i64.wrap (c.toNat : Int) = (c.toNat : Int) := by
  have := c.toNat_lt; rw [IntKind.wrap_i64]; omega

theorem PV.conv_in {src dst : TypeId} {x : Operand} {k k' : IntKind} {p : Int} (hT : P.underlying src = some (.int k)) (hT' : P.underlying dst = some (.int k')) (ho : o.op = .convert src dst x) (hx : ev l x = some (.int k p)) (hr : k'.wrap p = p) :
    PV P n w0 F l H o (.int k' p) := by
  have h := PV.conv (P := P) (n := n) (w0 := w0) (F := F) (H := H) hT hT' ho hx
  rwa [hr] at h

theorem PV.load_u8 {t : TypeId} {x : Operand} {A : Option Addr} {k : Nat} {bs : List UInt8} (hR : ∀ w, HA w0 F H w → Rd w (Old w) A (u8s bs)) (ht : Na P t) (ho : o.op = .load t x) (hx : ev l x = some (eptr A k)) (hk : k < bs.length) :
    PV P n w0 F l H o (.int .u8 ((bs.getD k 0).toNat : Int)) := PV.load_of hR ht ho hx (by simp [u8s, hk, List.getD])
theorem PV.load_int {t : TypeId} {x : Operand} {A : Option Addr} {k : Nat} {is : List Int} (hR : ∀ w, HA w0 F H w → Rd w (Old w) A (ints is)) (ht : Na P t) (ho : o.op = .load t x) (hx : ev l x = some (eptr A k)) (hk : k < is.length) :
    PV P n w0 F l H o (.int .i64 (is.getD k 0)) := PV.load_of hR ht ho hx (by simp [ints, hk, List.getD])

theorem PV.indexAddr {t e : TypeId} {x ix : Operand} {A : Option Addr} {m c : Nat} {k : IntKind} {i : Int} {sz j bytes : Nat} {z : Value} {xs : List Value} (hR : ∀ w, HA w0 F H w → Rd w (Old w) A xs) (hT : P.underlying t = some (.slice e)) (hI : In P e z sz bytes)
    (ho : o.op = .indexAddr t x ix) (hx : ev l x = some (.slice A m c)) (hix : ev l ix = some (.int k i)) (hj : i = (j : Int)) (hlen : xs.length = m * sz) (hlt : j < m) (hsz : 0 < sz) : PV P n w0 F l H o (eptr A (j * sz)) := fun a w ha hw => by
  obtain ⟨ad, rfl, _, _⟩ := hR w hw (by rw [hlen]; exact Nat.mul_pos (by omega) hsz)
  obtain ⟨q, hq, _, hs, _⟩ := hI.parts
  subst hj
  simp [execOp, ho, ha.ev hx, ha.ev hix, Instr.indexAt, asIntOf, run_underlying hT, sizeOf, typeInfo, hq, hs, hlt, eptr, show (0 : Int) ≤ (j : Int) by omega]

theorem PV.indexAddr1 {t e : TypeId} {x ix : Operand} {A : Option Addr} {m c : Nat} {k : IntKind} {i : Int} {j bytes : Nat} {z : Value} {xs : List Value} (hR : ∀ w, HA w0 F H w → Rd w (Old w) A xs) (hT : P.underlying t = some (.slice e)) (hI : In P e z 1 bytes)
    (ho : o.op = .indexAddr t x ix) (hx : ev l x = some (.slice A m c)) (hix : ev l ix = some (.int k i)) (hj : i = (j : Int)) (hlen : xs.length = m) (hlt : j < m) : PV P n w0 F l H o (eptr A j) := by
  have h := PV.indexAddr (P := P) (n := n) hR hT hI ho hx hix hj (by rw [hlen, Nat.mul_one]) hlt (by omega)
  rwa [Nat.mul_one] at h

/-- an element of an array in a block. -/
theorem PV.indexArr {t e : TypeId} {x ix : Operand} {B p len : Nat} {k : IntKind} {i : Int} {sz j bytes : Nat} {z : Value} (hT : P.underlying t = some (.array len e)) (hI : In P e z sz bytes)
    (ho : o.op = .indexAddr t x ix) (hx : ev l x = some (.pointer (some ⟨B, p, none⟩))) (hix : ev l ix = some (.int k i)) (hj : i = (j : Int)) (hlt : j < len) : PV P n w0 F l H o (.pointer (some ⟨B, p + j * sz, none⟩)) := fun a w ha hw => by
  obtain ⟨q, hq, _, hs, _⟩ := hI.parts
  subst hj
  have hadd : (⟨B, p, none⟩ : Addr).add (j * sz) = ⟨B, p + j * sz, none⟩ := by unfold Addr.add; split <;> simp_all
  simp [execOp, ho, ha.ev hx, ha.ev hix, Instr.indexAt, asIntOf, run_underlying hT, sizeOf, typeInfo, hq, hs, hlt, Instr.sureAddr, hadd, show (0 : Int) ≤ (j : Int) by omega]

theorem PV.slen {x : Operand} {t : TypeId} {bs : List UInt8} (hT : P.underlying t = some .string) (ho : o.op = .call { callee := .builtin .len, args := #[x], argTypes := #[t] }) (hx : ev l x = some (sv bs)) :
    PV P n w0 F l H o (.int .i64 bs.length) := fun a w ha _ => by
  have hx' := ha.ev hx
  unfold sv at hx'
  have hsz : (⟨bs.toArray⟩ : ByteArray).size = bs.length := by show bs.toArray.size = _; simp
  simp [execOp, ho, resolve, invoke, builtin, hx', Builtin.len_, run_underlying hT, goInt, hsz]

theorem PV.max {x y : Operand} {t t' : TypeId} {k : IntKind} {p q : Int} (ho : o.op = .call { callee := .builtin .max, args := #[x, y], argTypes := #[t, t'] }) (hx : ev l x = some (.int k p)) (hy : ev l y = some (.int k q)) :
    PV P n w0 F l H o (.int k (if p < q then q else p)) := fun a w ha _ => by
  simp [execOp, ho, resolve, invoke, builtin, ha.ev hx, ha.ev hy, run_max_int2]

theorem Rd.nil {w : World} {G : Nat → Prop} {A : Option Addr} : Rd w G A [] := fun h => absurd h (by simp)
theorem Rd.old {w : World} {G : Nat → Prop} {A : Option Addr} {xs : List Value} (h : Rd w G A xs) (hg : ∀ k, G k → k < w.heap.size) : Rd w (Old w) A xs := fun hx => by
  obtain ⟨ad, h1, h2, h3⟩ := h hx; exact ⟨ad, h1, hg _ h2, h3⟩

/-! ### append, with typed elements -/
section
variable {ops : Array Oper} {rest : List Oper} {d : Nat} {s x : Operand} {t Et i sz bytes m c m2 c2 : Nat} {z : Value} {zs : List Value} {A A2 : Option Addr} {xs ys : List Value} {H' : List HP}

/-- onto an empty slice. -/
theorem OW.append0 (hT : P.underlying t = some (.slice Et)) (hI : In P Et z sz bytes) (hz : z.cells = zs.toArray) (hzl : zs.length = sz) (hsz : 0 < sz)
    (ho : o.op = .call { callee := .builtin .append, args := #[s, x], argTypes := #[t, t] }) (hg : gd ops l o.guard = some true) (hd : o.dst = some d) (hn : Nat.blt d n = true)
    (hs : ev l s = some (.slice A 0 c)) (hx : ev l x = some (.slice A2 m2 c2)) (hi : sel H i = some (HP.row Et sz A 0 c [], H'))
    (hR : ∀ w, HA w0 F H w → Rd w (Old w) A2 ys) (hl : ys.length = m2 * sz) (h1 : ∀ u ∈ ys, u.oneCell' = true)
    (h63 : m2 ≤ maxLen) (hb : m2 * bytes ≤ 140737488355328)
    (k : ∀ A' c', OW P n w0 F ops K rest ((d, .slice A' m2 c') :: l) (HP.row Et sz A' m2 c' ys :: H')) : OW P n w0 F ops K (o :: rest) l H :=
  OW.append hT hI hz hzl hsz ho hg hd hn hs hx hi hR hl h1 (by omega) (by simpa using hb) (fun A' c' => by simpa using k A' c')

variable {is is2 : List Int} {bs bs2 : List UInt8}
theorem OW.app_ints (hT : P.underlying t = some (.slice Et)) (hI : In P Et z 1 8) (hz : z.cells = zs.toArray) (hzl : zs.length = 1)
    (ho : o.op = .call { callee := .builtin .append, args := #[s, x], argTypes := #[t, t] }) (hg : gd ops l o.guard = some true) (hd : o.dst = some d) (hn : Nat.blt d n = true)
    (hs : ev l s = some (.slice A is.length c)) (hx : ev l x = some (.slice A2 is2.length c2)) (hi : sel H i = some (HP.row Et 1 A is.length c (ints is), H'))
    (hR : ∀ w, HA w0 F H w → Rd w (Old w) A2 (ints is2)) (hb : (is.length + is2.length) * 8 ≤ 140737488355328)
    (k : ∀ A' c', OW P n w0 F ops K rest ((d, .slice A' (is ++ is2).length c') :: l) (HP.row Et 1 A' (is ++ is2).length c' (ints (is ++ is2)) :: H')) : OW P n w0 F ops K (o :: rest) l H :=
  OW.append hT hI hz hzl (by omega) ho hg hd hn hs hx hi hR (by simp) ints_one (by unfold maxLen; omega) hb (fun A' c' => by simpa [ints] using k A' c')

/-- one more element, out of a slice literal (the chunk j, which is dropped). -/
theorem OW.app_int1 {j cc : Nat} {v : Int} {H2 H3 : List HP} (hT : P.underlying t = some (.slice Et)) (hI : In P Et z 1 8) (hz : z.cells = zs.toArray) (hzl : zs.length = 1)
    (ho : o.op = .call { callee := .builtin .append, args := #[s, x], argTypes := #[t, t] }) (hg : gd ops l o.guard = some true) (hd : o.dst = some d) (hn : Nat.blt d n = true)
    (hs : ev l s = some (.slice A is.length c)) (hx : ev l x = some (.slice A2 1 cc)) (hj : sel H j = some (HP.row Et 1 A2 1 cc [.int .i64 v], H2)) (hi : sel H2 i = some (HP.row Et 1 A is.length c (ints is), H3))
    (hb : (is.length + 1) * 8 ≤ 140737488355328)
    (k : ∀ A' c', OW P n w0 F ops K rest ((d, .slice A' (is ++ [v]).length c') :: l) (HP.row Et 1 A' (is ++ [v]).length c' (ints (is ++ [v])) :: H3)) : OW P n w0 F ops K (o :: rest) l H := by
  have hp := (sel_perm hj).trans ((sel_perm hi).cons _ |>.trans (List.Perm.swap _ _ _))
  refine fun a w ha hw => OW.append (H := HP.row Et 1 A is.length c (ints is) :: HP.row Et 1 A2 1 cc [.int .i64 v] :: H3) (i := 0) (H' := HP.row Et 1 A2 1 cc [.int .i64 v] :: H3) (ys := [.int .i64 v]) hT hI hz hzl (by omega) ho hg hd hn hs hx rfl
    (fun w hw => hw.rdrow (i := 1) rfl) rfl (by simp [Value.oneCell']) (by unfold maxLen; omega) hb (fun A' c' => ?_) a w ha (hw.perm hp)
  refine OW.drop 1 rfl ?_
  simpa [ints] using k A' c'

theorem OW.app_u8 (hT : P.underlying t = some (.slice Et)) (hI : In P Et z 1 1) (hz : z.cells = zs.toArray) (hzl : zs.length = 1)
    (ho : o.op = .call { callee := .builtin .append, args := #[s, x], argTypes := #[t, t] }) (hg : gd ops l o.guard = some true) (hd : o.dst = some d) (hn : Nat.blt d n = true)
    (hs : ev l s = some (.slice A bs.length c)) (hx : ev l x = some (.slice A2 bs2.length c2)) (hi : sel H i = some (HP.row Et 1 A bs.length c (u8s bs), H'))
    (hR : ∀ w, HA w0 F H w → Rd w (Old w) A2 (u8s bs2)) (hb : bs.length + bs2.length ≤ 140737488355328)
    (k : ∀ A' c', OW P n w0 F ops K rest ((d, .slice A' (bs ++ bs2).length c') :: l) (HP.row Et 1 A' (bs ++ bs2).length c' (u8s (bs ++ bs2)) :: H')) : OW P n w0 F ops K (o :: rest) l H :=
  OW.append hT hI hz hzl (by omega) ho hg hd hn hs hx hi hR (by simp) u8s_one (by unfold maxLen; omega) (by omega) (fun A' c' => by simpa [u8s] using k A' c')

theorem OW.app_u81 {j cc : Nat} {p : Int} (v : UInt8) {H2 H3 : List HP} (hp : p = (v.toNat : Int)) (hT : P.underlying t = some (.slice Et)) (hI : In P Et z 1 1) (hz : z.cells = zs.toArray) (hzl : zs.length = 1)
    (ho : o.op = .call { callee := .builtin .append, args := #[s, x], argTypes := #[t, t] }) (hg : gd ops l o.guard = some true) (hd : o.dst = some d) (hn : Nat.blt d n = true)
    (hs : ev l s = some (.slice A bs.length c)) (hx : ev l x = some (.slice A2 1 cc)) (hj : sel H j = some (HP.row Et 1 A2 1 cc [.int .u8 p], H2)) (hi : sel H2 i = some (HP.row Et 1 A bs.length c (u8s bs), H3))
    (hb : bs.length + 1 ≤ 140737488355328)
    (k : ∀ A' c', OW P n w0 F ops K rest ((d, .slice A' (bs ++ [v]).length c') :: l) (HP.row Et 1 A' (bs ++ [v]).length c' (u8s (bs ++ [v])) :: H3)) : OW P n w0 F ops K (o :: rest) l H := by
  subst hp
  have hpm := (sel_perm hj).trans ((sel_perm hi).cons _ |>.trans (List.Perm.swap _ _ _))
  refine fun a w ha hw => OW.append (H := HP.row Et 1 A bs.length c (u8s bs) :: HP.row Et 1 A2 1 cc [.int .u8 v.toNat] :: H3) (i := 0) (H' := HP.row Et 1 A2 1 cc [.int .u8 v.toNat] :: H3) (ys := [.int .u8 v.toNat]) hT hI hz hzl (by omega) ho hg hd hn hs hx rfl
    (fun w hw => hw.rdrow (i := 1) rfl) rfl (by simp [Value.oneCell']) (by unfold maxLen; omega) (by omega) (fun A' c' => ?_) a w ha (hw.perm hpm)
  refine OW.drop 1 rfl ?_
  simpa [u8s] using k A' c'
end

/-! ### Bytes of the function's own -/
theorem PV.xor_u8 {t t' : TypeId} {x y : Operand} {p q : UInt8} (ho : o.op = .binOp .xor t x y t') (hx : ev l x = some (.int .u8 (p.toNat : Int))) (hy : ev l y = some (.int .u8 (q.toNat : Int))) : PV P n w0 F l H o (.int .u8 ((p ^^^ q).toNat : Int)) :=
  PV.bin ho hx hy eg_int fun w => by
    have hp := p.toNat_lt
    have hq := q.toNat_lt
    rw [binOp_xor]
    simp [Op.intBits, UInt8.toNat_xor]
    rw [show IntKind.u8.bits = 8 from rfl, Nat.mod_eq_of_lt hp, Nat.mod_eq_of_lt hq, IntKind.wrap_u8]
    have := Nat.xor_lt_two_pow hp hq
    omega
theorem OW.store_u8 {ops : Array Oper} {rest : List Oper} {t : TypeId} {x y : Operand} {Et i m c j : Nat} {A : Option Addr} {b : UInt8} {bs : List UInt8} {H' : List HP} (hsz : ∀ w, (sizeOf t).run P w = .ok 1 w) (ho : o.op = .store t x y)
    (hg : gd ops l o.guard = some true) (hd : o.dst = none) (hx : ev l x = some (eptr A j)) (hy : ev l y = some (.int .u8 (b.toNat : Int)))
    (hi : sel H i = some (HP.row Et 1 A m c (u8s bs), H')) (hj : j < m) (k : OW P n w0 F ops K rest l (HP.row Et 1 A m c (u8s (bs.set j b)) :: H')) : OW P n w0 F ops K (o :: rest) l H :=
  OW.store_row hsz ho hg hd hx hy rfl rfl hi hj (by simpa [u8s, List.map_set] using k)

theorem OW.store_int {ops : Array Oper} {rest : List Oper} {t : TypeId} {x y : Operand} {Et i m c j : Nat} {A : Option Addr} {b : Int} {bs : List Int} {H' : List HP} (hsz : ∀ w, (sizeOf t).run P w = .ok 1 w) (ho : o.op = .store t x y)
    (hg : gd ops l o.guard = some true) (hd : o.dst = none) (hx : ev l x = some (eptr A j)) (hy : ev l y = some (.int .i64 b))
    (hi : sel H i = some (HP.row Et 1 A m c (ints bs), H')) (hj : j < m) (k : OW P n w0 F ops K rest l (HP.row Et 1 A m c (ints (bs.set j b)) :: H')) : OW P n w0 F ops K (o :: rest) l H :=
  OW.store_row hsz ho hg hd hx hy rfl rfl hi hj (by simpa [ints, List.map_set] using k)
theorem OW.make_ints {ops : Array Oper} {rest : List Oper} {d : Nat} {t Et bytes : Nat} {x y : Operand} {kx ky : IntKind} {px : Int} (m : Nat) (hT : P.underlying t = some (.slice Et)) (hI : In P Et (.int .i64 0) 1 bytes)
    (ho : o.op = .makeSlice t x y) (hg : gd ops l o.guard = some true) (hd : o.dst = some d) (hn : Nat.blt d n = true) (hx : ev l x = some (.int kx px)) (hy : ev l y = some (.int ky px)) (hm : px = (m : Int))
    (hmax : m ≤ maxLen) (hb : bytes * m ≤ 281474976710656)
    (k : ∀ A, OW P n w0 F ops K rest ((d, .slice A m m) :: l) (HP.row Et 1 A m m (ints (List.replicate m 0)) :: H)) : OW P n w0 F ops K (o :: rest) l H :=
  OW.make m hT hI rfl ho hg hd hn hx hy hm hmax hb (fun A => by simpa [ints] using k A)
theorem OW.make_u8s {ops : Array Oper} {rest : List Oper} {d : Nat} {t Et bytes : Nat} {x y : Operand} {kx ky : IntKind} {px : Int} (m : Nat) (hT : P.underlying t = some (.slice Et)) (hI : In P Et (.int .u8 0) 1 bytes)
    (ho : o.op = .makeSlice t x y) (hg : gd ops l o.guard = some true) (hd : o.dst = some d) (hn : Nat.blt d n = true) (hx : ev l x = some (.int kx px)) (hy : ev l y = some (.int ky px)) (hm : px = (m : Int))
    (hmax : m ≤ maxLen) (hb : bytes * m ≤ 281474976710656)
    (k : ∀ A, OW P n w0 F ops K rest ((d, .slice A m m) :: l) (HP.row Et 1 A m m (u8s (List.replicate m 0)) :: H)) : OW P n w0 F ops K (o :: rest) l H :=
  OW.make m hT hI rfl ho hg hd hn hx hy hm hmax hb (fun A => by simpa [u8s] using k A)

/-! ### Strings: an index, a range -/
theorem PV.sindex {t : TypeId} {x ix : Operand} {bs : List UInt8} {k : IntKind} {i : Int} {j : Nat} (hT : P.underlying t = some .string) (ho : o.op = .index t x ix) (hx : ev l x = some (sv bs)) (hix : ev l ix = some (.int k i))
    (hj : i = (j : Int)) (hlt : j < bs.length) : PV P n w0 F l H o (.int .u8 ((bs.getD j 0).toNat : Int)) := fun a w ha _ => by
  have hx' := ha.ev hx
  unfold sv at hx'
  subst hj
  have hsz : (⟨bs.toArray⟩ : ByteArray).size = bs.length := by show bs.toArray.size = _; simp
  have hg : (⟨bs.toArray⟩ : ByteArray)[j]? = some (bs.getD j 0) := by
    rw [getElem?_pos _ _ (by rw [hsz]; exact hlt)]
    show some (bs.toArray[j]'_) = _
    simp [List.getD, hlt]
  have hat : (⟨bs.toArray⟩ : ByteArray)[j]'(by rw [hsz]; exact hlt) = bs[j] := by show bs.toArray[j]'_ = _; simp
  simp [execOp, ho, hx', ha.ev hix, Instr.index, asIntOf, run_underlying hT, hsz, hg, hat, hlt, show (0 : Int) ≤ (j : Int) by omega]

/-- a string's iterator. -/
def HP.itr (B : Nat) (bs : List UInt8) (pos : Nat) : HP where
  sem S w := (∀ k, S k ↔ k = B) ∧ w.heap[B]? = some (.stringIter ⟨bs.toArray⟩ pos)
  loc := fun _ _ _ h ⟨h1, h2⟩ => ⟨h1, by rw [h B ((h1 B).2 rfl)]; exact h2⟩

theorem OW.range {ops : Array Oper} {rest : List Oper} {d : Nat} {t : TypeId} {x : Operand} {bs : List UInt8} (hT : P.underlying t = some .string) (ho : o.op = .range t x) (hg : gd ops l o.guard = some true) (hd : o.dst = some d) (hn : Nat.blt d n = true)
    (hx : ev l x = some (sv bs)) (k : ∀ B, OW P n w0 F ops K rest ((d, .pointer (some ⟨B, 0, none⟩)) :: l) (HP.itr B bs 0 :: H)) : OW P n w0 F ops K (o :: rest) l H :=
  OW.step hg hd hn (fun v H' => ∃ B, v = .pointer (some ⟨B, 0, none⟩) ∧ H' = HP.itr B bs 0 :: H)
    (fun a w ha hw => by
      have hx' := ha.ev hx
      unfold sv at hx'
      exact ⟨_, w.iter ⟨bs.toArray⟩ 0, _, by simp [execOp, ho, hx', run_range_string (P := P) w t ⟨bs.toArray⟩ hT], ⟨w.heap.size, rfl, rfl⟩,
        hw.new (.stringIter ⟨bs.toArray⟩ 0) (Hn := [HP.itr w.heap.size bs 0]) ⟨fun k => k = w.heap.size, ⟨fun _ => Iff.rfl, heap_alloc_new w _⟩, fun k hk => by subst hk; simp, trivial⟩⟩)
    (fun v H' ⟨B, hv, hH⟩ => by subst hv hH; exact k B)

theorem HA.setItr {w : World} {B pos pos' : Nat} {bs : List UInt8} (h : HA w0 F (HP.itr B bs pos :: H) w) : HA w0 F (HP.itr B bs pos' :: H) (w.iterAt B ⟨bs.toArray⟩ pos') := by
  refine h.write (Hn := [HP.itr B bs pos']) fun S hS hB => ⟨rfl, rfl, rfl, by rw [Lib.iterAt_size]; exact Nat.le_refl _, fun k hlt hk => ?_, S, ⟨hS.1, Lib.iterAt_heap w B _ pos pos' hS.2⟩, fun k hk => ?_, trivial⟩
  · exact Lib.iterAt_other w B k _ _ (fun e => hk ((hS.1 k).2 e))
  · exact ⟨by rw [Lib.iterAt_size]; exact (hB k hk).1, fun hn => hn.2 hk⟩

/-- the next character: a byte below 128, another one, none. -/
theorem OW.next {ops : Array Oper} {rest : List Oper} {d i : Nat} {x : Operand} {B pos : Nat} {bs : List UInt8} {H' : List HP} (ho : o.op = .next x true) (hg : gd ops l o.guard = some true) (hd : o.dst = some d) (hn : Nat.blt d n = true)
    (hx : ev l x = some (.pointer (some ⟨B, 0, none⟩))) (hi : sel H i = some (HP.itr B bs pos, H'))
    (k1 : pos < bs.length → (bs.getD pos 0).toNat < 128 → OW P n w0 F ops K rest ((d, .tuple #[.bool true, .int .i64 (pos : Int), .int .i32 ((bs.getD pos 0).toNat : Int)]) :: l) (HP.itr B bs (pos + 1) :: H'))
    (k2 : ∀ (c : Int) (pos' : Nat), pos < bs.length → 128 ≤ (bs.getD pos 0).toNat → 128 ≤ c ∧ c ≤ 2147483647 → OW P n w0 F ops K rest ((d, .tuple #[.bool true, .int .i64 (pos : Int), .int .i32 c]) :: l) (HP.itr B bs pos' :: H'))
    (k3 : bs.length ≤ pos → OW P n w0 F ops K rest ((d, .tuple #[.bool false]) :: l) (HP.itr B bs pos :: H')) : OW P n w0 F ops K (o :: rest) l H := by
  have hsz : (⟨bs.toArray⟩ : ByteArray).size = bs.length := by show bs.toArray.size = _; simp
  have hat : ∀ (h : pos < (⟨bs.toArray⟩ : ByteArray).size), (⟨bs.toArray⟩ : ByteArray)[pos]'h = bs.getD pos 0 := by
    intro h
    rw [hsz] at h
    show bs.toArray[pos]'_ = _
    simp [List.getD, h]
  by_cases h : pos < bs.length
  · have hs : pos < (⟨bs.toArray⟩ : ByteArray).size := by rw [hsz]; exact h
    by_cases ha : (bs.getD pos 0).toNat < 128
    · refine OW.step hg hd hn (fun v H1 => v = .tuple #[.bool true, .int .i64 (pos : Int), .int .i32 ((bs.getD pos 0).toNat : Int)] ∧ H1 = HP.itr B bs (pos + 1) :: H') (fun a w hag hw => ?_) (fun v H1 ⟨hv, hH⟩ => by subst hv hH; exact k1 h ha)
      have hb : w.heap[B]? = some (.stringIter ⟨bs.toArray⟩ pos) := by obtain ⟨S, h1, _⟩ := (hw.sel hi).chunks; exact h1.2
      have hr := Lib.run_next_ascii_at (P := P) w B ⟨bs.toArray⟩ pos o.type hb hs (by rw [hat hs]; exact ha)
      rw [hat hs] at hr
      exact ⟨_, _, _, by simp [execOp, ho, hag.ev hx, hr], ⟨rfl, rfl⟩, (hw.sel hi).setItr⟩
    · refine OW.step hg hd hn (fun v H1 => ∃ (c : Int) (pos' : Nat), (128 ≤ c ∧ c ≤ 2147483647) ∧ v = .tuple #[.bool true, .int .i64 (pos : Int), .int .i32 c] ∧ H1 = HP.itr B bs pos' :: H') (fun a w hag hw => ?_) (fun v H1 ⟨c, pos', hc, hv, hH⟩ => by subst hv hH; exact k2 c pos' h (by omega) hc)
      have hb : w.heap[B]? = some (.stringIter ⟨bs.toArray⟩ pos) := by obtain ⟨S, h1, _⟩ := (hw.sel hi).chunks; exact h1.2
      have hr := Lib.run_next_any_at (P := P) w B ⟨bs.toArray⟩ pos o.type hb hs
      have h2 := decode_high ⟨bs.toArray⟩ pos hs (by rw [hat hs]; omega)
      have h3 := decode_le ⟨bs.toArray⟩ pos
      exact ⟨.tuple #[.bool true, .int .i64 (pos : Int), .int .i32 ((Utf8.decode ⟨bs.toArray⟩ pos).1 : Int)], w.iterAt B ⟨bs.toArray⟩ (pos + (Utf8.decode ⟨bs.toArray⟩ pos).2), HP.itr B bs (pos + (Utf8.decode ⟨bs.toArray⟩ pos).2) :: H',
        by simp [execOp, ho, hag.ev hx, hr], ⟨((Utf8.decode ⟨bs.toArray⟩ pos).1 : Int), pos + (Utf8.decode ⟨bs.toArray⟩ pos).2, ⟨by omega, by omega⟩, rfl, rfl⟩, (hw.sel hi).setItr⟩
  · refine OW.step hg hd hn (fun v H1 => v = .tuple #[.bool false] ∧ H1 = HP.itr B bs pos :: H') (fun a w hag hw => ?_) (fun v H1 ⟨hv, hH⟩ => by subst hv hH; exact k3 (by omega))
    have hb : w.heap[B]? = some (.stringIter ⟨bs.toArray⟩ pos) := by obtain ⟨S, h1, _⟩ := (hw.sel hi).chunks; exact h1.2
    have hr := Lib.run_next_end_at (P := P) w B ⟨bs.toArray⟩ pos o.type hb (by rw [hsz]; exact h)
    exact ⟨_, _, _, by simp [execOp, ho, hag.ev hx, hr], ⟨rfl, rfl⟩, hw.sel hi⟩

/-! ### Arrays of Bools in a block -/
def bools (m : Nat) (f : Nat → Bool) : List Value := (List.range m).map fun i => .bool (f i)
@[simp] theorem bools_length (m : Nat) (f : Nat → Bool) : (bools m f).length = m := by simp [bools]
theorem bools_get {m j : Nat} (f : Nat → Bool) (h : j < m) : (bools m f)[j]? = some (.bool (f j)) := by simp [bools, h]
theorem bools_set {m j : Nat} (f : Nat → Bool) (b : Bool) : (bools m f).set j (.bool b) = bools m (fun i => if i = j then b else f i) := by
  apply List.ext_getElem?
  intro i
  rw [List.getElem?_set]
  simp only [bools, List.getElem?_map, List.length_map, List.length_range]
  by_cases h : i < m
  · by_cases e : j = i
    · subst e; simp [h]
    · rw [if_neg e, List.getElem?_range h]; simp [show ¬ i = j from fun h => e h.symm]
  · rw [List.getElem?_eq_none (by simp; omega)]
    by_cases e : j = i
    · subst e; simp [h]
    · simp [e]
theorem bools_one (m : Nat) (f : Nat → Bool) : (bools m f).all (·.oneCell') = true := by simp [bools, Value.oneCell']
theorem slc_all : ∀ (cs : List Value), slc cs 0 cs.length = some cs := by
  intro cs
  induction cs with
  | nil => rfl
  | cons v r ih => simp [slc, ih]
theorem wr_all : ∀ (cs vs : List Value), cs.length = vs.length → wr cs 0 vs = some vs := by
  intro cs
  induction cs with
  | nil => intro vs h; cases vs with
    | nil => rfl
    | cons => simp at h
  | cons v r ih => intro vs h; cases vs with
    | nil => simp at h
    | cons u t => simp [wr, ih t (by simpa using h)]
theorem wr_set : ∀ (cs : List Value) (j : Nat) (v : Value), j < cs.length → wr cs j [v] = some (cs.set j v) := by
  intro cs
  induction cs with
  | nil => intro j v h; simp at h
  | cons u r ih =>
    intro j v h
    cases j with
    | zero =>
      have : wr r 0 [] = some r := by cases r <;> rfl
      simp [wr, this]
    | succ j => simp [wr, ih j v (by simpa using h)]
theorem PV.indexArr1 {t e : TypeId} {x ix : Operand} {B len : Nat} {k : IntKind} {i : Int} {j bytes : Nat} {z : Value} (hT : P.underlying t = some (.array len e)) (hI : In P e z 1 bytes)
    (ho : o.op = .indexAddr t x ix) (hx : ev l x = some (.pointer (some ⟨B, 0, none⟩))) (hix : ev l ix = some (.int k i)) (hj : i = (j : Int)) (hlt : j < len) : PV P n w0 F l H o (.pointer (some ⟨B, j, none⟩)) := by
  have h := PV.indexArr (P := P) (n := n) (w0 := w0) (F := F) (H := H) hT hI ho hx hix hj hlt
  rwa [Nat.mul_one, Nat.zero_add] at h
theorem PV.load_bools {t : TypeId} {x : Operand} {B T j i m : Nat} {f : Nat → Bool} {H' : List HP} (ht : Na P t) (ho : o.op = .load t x) (hx : ev l x = some (.pointer (some ⟨B, j, none⟩)))
    (hi : sel H i = some (HP.blk B T (bools m f), H')) (hj : j < m) : PV P n w0 F l H o (.bool (f j)) := PV.load ht ho hx hi (bools_get f hj)
theorem PV.loads_bools {t : TypeId} {x : Operand} {B T i m : Nat} {f : Nat → Bool} {H' : List HP} (ht : Is P t m) (ho : o.op = .load t x) (hx : ev l x = some (.pointer (some ⟨B, 0, none⟩)))
    (hi : sel H i = some (HP.blk B T (bools m f), H')) : PV P n w0 F l H o (.agg (bools m f).toArray) := PV.loads ht ho hx hi (by have := slc_all (bools m f); simpa using this)
theorem OW.store_bools {ops : Array Oper} {rest : List Oper} {t : TypeId} {x y : Operand} {B T j i m : Nat} {b : Bool} {f : Nat → Bool} {H' : List HP} (hsz : ∀ w, (sizeOf t).run P w = .ok 1 w) (ho : o.op = .store t x y)
    (hg : gd ops l o.guard = some true) (hd : o.dst = none) (hx : ev l x = some (.pointer (some ⟨B, j, none⟩))) (hy : ev l y = some (.bool b))
    (hi : sel H i = some (HP.blk B T (bools m f), H')) (hj : j < m) (k : OW P n w0 F ops K rest l (HP.blk B T (bools m (fun i => if i = j then b else f i)) :: H')) : OW P n w0 F ops K (o :: rest) l H :=
  OW.store (vs := [.bool b]) hsz ho hg hd hx hy rfl rfl hi (by rw [wr_set _ _ _ (by simpa using hj), bools_set]) k
theorem OW.store_boolsall {ops : Array Oper} {rest : List Oper} {t : TypeId} {x y : Operand} {B T i m : Nat} {f g : Nat → Bool} {H' : List HP} (hsz : ∀ w, (sizeOf t).run P w = .ok m w) (ho : o.op = .store t x y)
    (hg : gd ops l o.guard = some true) (hd : o.dst = none) (hx : ev l x = some (.pointer (some ⟨B, 0, none⟩))) (hy : ev l y = some (.agg (bools m g).toArray))
    (hi : sel H i = some (HP.blk B T (bools m f), H')) (k : OW P n w0 F ops K rest l (HP.blk B T (bools m g) :: H')) : OW P n w0 F ops K (o :: rest) l H :=
  OW.store (vs := bools m g) (by simpa using hsz) ho hg hd hx hy (by simp [Value.cells]) (bools_one m g) hi (wr_all _ _ (by simp)) k

/-! ### Results that lie in memory -/
/-- what a result reads as at the end. -/
def rv (P : Program) (l : Env) (H : List HP) : ResultVar → Value → Prop
  | .tmp t, v => lk l t = some v
  | .cell t T, v => ∃ B i T' cs vs H' sz, lk l t = some (.pointer (some ⟨B, 0, none⟩)) ∧ sel H i = some (HP.blk B T' cs, H') ∧ Is P T sz ∧ slc cs 0 sz = some vs ∧ v = .agg vs.toArray

def rrun (tmps : Array Value) : ResultVar → Sem Value
  | .tmp t => Pure.pure (tmps.getD t undef)
  | .cell p t => do loadVar t (← asAddr (tmps.getD p undef))

theorem rv.run {r : ResultVar} {v : Value} (h : rv P l H r v) {a : Act} {w : World} (ha : Ag n l a) (hw : HA w0 F H w) : (rrun a.tmps r).run P w = .ok v w := by
  cases r with
  | tmp t =>
    have h2 := ha.get t v h
    simp [rrun, Array.getD_eq_getD_getElem?, h2]
  | cell t T =>
    obtain ⟨B, i, T', cs, vs, H', sz, h1, h2, h3, h4, h5⟩ := h
    subst h5
    have h6 := ha.get t _ h1
    have hb := hw.blk h2
    obtain ⟨h7, h8⟩ := slc_spec h4
    subst h7
    have hr := run_loadVar_is (w := w) (ad := ⟨B, 0, none⟩) h3 fun i v hv => by
      have hadd : (⟨B, 0, none⟩ : Addr).add i = ⟨B, 0 + i, none⟩ := by unfold Addr.add; split <;> simp_all
      rw [hadd, cell_of_row w B (0 + i) _ T' (0, 0) hb]
      simpa using h8 i v hv
    simp [rrun, Array.getD_eq_getD_getElem?, h6, asAddr, hr]

theorem sli (i : Nat) {x : Option (HP × List HP)} (h : sel H i = x) : sel H i = x := h
theorem rv.cell {t T B i T' sz : Nat} {cs vs : List Value} {H' : List HP} (h3 : Is P T sz) (h1 : lk l t = some (.pointer (some ⟨B, 0, none⟩))) (h2 : sel H i = some (HP.blk B T' cs, H')) (h4 : slc cs 0 sz = some vs) : rv P l H (.cell t T) (.agg vs.toArray) :=
  ⟨B, i, T', cs, vs, H', sz, h1, h2, h3, h4, rfl⟩

theorem results_eq (fn : Func) (tmps : Array Value) : results fn tmps = (do let vs ← fn.results.mapM (rrun tmps); Pure.pure (if h : vs.size = 1 then vs[0] else .tuple vs)) := by
  have : (fun r => rrun tmps r) = rrun tmps := rfl
  unfold results
  congr 1
theorem results_run1 {fn : Func} {r : ResultVar} (h : fn.results = #[r]) (tmps : Array Value) (w : World) {v : Value} (h1 : (rrun tmps r).run P w = .ok v w) : (results fn tmps).run P w = .ok v w := by
  rw [results_eq, h]
  simp [h1]
theorem results_run2 {fn : Func} {r r2 : ResultVar} (h : fn.results = #[r, r2]) (tmps : Array Value) (w : World) {v v2 : Value} (h1 : (rrun tmps r).run P w = .ok v w) (h2 : (rrun tmps r2).run P w = .ok v2 w) : (results fn tmps).run P w = .ok (.tuple #[v, v2]) w := by
  rw [results_eq, h]
  simp [h1, h2]

variable {fn : Func} {R : Value → List HP → Prop} {Hn : List HP}
theorem KR.rv1 {r : ResultVar} {v : Value} (is : List Nat) (hr : fn.results = #[r]) (h1 : rv P l H r v) (hs : sels H is = some Hn) (hR : R v Hn) : KR P fn n w0 F R .ret l H :=
  ⟨v, Hn, is, fun a w ha hw => results_run1 hr _ _ (h1.run ha hw), hs, hR⟩
theorem KR.rv2 {r r2 : ResultVar} {v v2 : Value} (is : List Nat) (hr : fn.results = #[r, r2]) (h1 : rv P l H r v) (h2 : rv P l H r2 v2) (hs : sels H is = some Hn) (hR : R (.tuple #[v, v2]) Hn) : KR P fn n w0 F R .ret l H :=
  ⟨_, Hn, is, fun a w ha hw => results_run2 hr _ _ (h1.run ha hw) (h2.run ha hw), hs, hR⟩
end
end E
end Go.Proofs.Yteibcphdbkgcgaa
