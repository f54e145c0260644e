/- Hexadecimal text, and what a drawing hides; laws for strings, for the lower bits, for a search in a string. No program in sight. -/
import Derived.Test.YteibcphdbkgcgaaCj
import Derived.Test.YteibcphdbkgcgaaCi
import Derived.Test.YteibcphdbkgcgaaFlR
import Derived.Lib.Bytealg
import Derived.Laws.Concat
namespace Go.Proofs.Yteibcphdbkgcgaa
set_option linter.unusedSimpArgs false
set_option linter.unusedVariables false
namespace Cf
open Go
def dg : List UInt8 := [48, 49, 50, 51, 52, 53, 54, 55, 56, 57, 97, 98, 99, 100, 101, 102]
def hx (c : UInt8) : List UInt8 := [dg.getD (c.toNat / 16) 0, dg.getD (c.toNat % 16) 0]
def hexs (l : List UInt8) (k : Nat) : List UInt8 := (l.take k).flatMap hx
theorem hexs_succ {l : List UInt8} {k : Nat} (h : k < l.length) : hexs l (k + 1) = hexs l k ++ hx (l.getD k 0) := by
  unfold hexs
  rw [List.take_add_one, List.getElem?_eq_getElem h, Option.toList_some, List.flatMap_append]
  simp [List.getD, h]
theorem hexs_len {l : List UInt8} : ∀ k, k ≤ l.length → (hexs l k).length = 2 * k := by
  intro k
  induction k with
  | zero => intro _; rfl
  | succ k ih => intro h; rw [hexs_succ (by omega), List.length_append, ih (by omega)]; simp [hx]; omega
theorem hexs_at {l : List UInt8} {k : Nat} : ∀ j, j ≤ l.length → k < j → (hexs l j).getD (2 * k) 0 = dg.getD ((l.getD k 0).toNat / 16) 0 ∧ (hexs l j).getD (2 * k + 1) 0 = dg.getD ((l.getD k 0).toNat % 16) 0 := by
  intro j
  induction j with
  | zero => intro _ h; omega
  | succ j ih =>
    intro hj hk
    have hl := hexs_len (l := l) j (by omega)
    rw [hexs_succ (by omega)]
    by_cases he : k = j
    · subst he
      constructor
      · rw [List.getD_eq_getElem?_getD, List.getElem?_append_right (by omega), hl, Nat.sub_self]; rfl
      · rw [List.getD_eq_getElem?_getD, List.getElem?_append_right (by omega), hl, show 2 * k + 1 - 2 * k = 1 by omega]; rfl
    · have := ih (by omega) (by omega)
      constructor
      · rw [List.getD_eq_getElem?_getD, List.getElem?_append_left (by omega), ← List.getD_eq_getElem?_getD]; exact this.1
      · rw [List.getD_eq_getElem?_getD, List.getElem?_append_left (by omega), ← List.getD_eq_getElem?_getD]; exact this.2
theorem dg_find : ∀ n, n < 16 → Lib.indexByte dg (dg.getD n 0) = n := by decide +kernel
theorem dg_hi (c : UInt8) : Lib.indexByte dg (dg.getD (c.toNat / 16) 0) = ((c.toNat / 16 : Nat) : Int) := dg_find _ (by have := c.toNat_lt; omega)
theorem dg_lo (c : UInt8) : Lib.indexByte dg (dg.getD (c.toNat % 16) 0) = ((c.toNat % 16 : Nat) : Int) := dg_find _ (by omega)
theorem nib (c : UInt8) : IntKind.u8.wrap (((c.toNat / 16 : Nat) : Int) * 16 + ((c.toNat % 16 : Nat) : Int)) = (c.toNat : Int) := by
  have := c.toNat_lt
  rw [IntKind.wrap_u8]; omega
/-! ### What a drawing hides -/
def hid (t : Int) (c : UInt8) : UInt8 := if 48 ≤ (c.toNat : Int) ∧ (c.toNat : Int) ≤ 57 ∧ ¬ (c.toNat : Int) - 48 = t then 35 else c
theorem hid_nat (t : Int) (c : UInt8) : ((hid t c).toNat : Int) = if 48 ≤ (c.toNat : Int) ∧ (c.toNat : Int) ≤ 57 ∧ ¬ (c.toNat : Int) - 48 = t then 35 else (c.toNat : Int) := by
  unfold hid; split <;> rfl
theorem chr_hid {t : Int} {c : UInt8} (ht : 0 ≤ t ∧ t < 3) (h : Fl.okc c = true) : Fl.chr (oc t c) = hid t (Fl.chr c) := by
  apply UInt8.toNat_inj.1
  have h1 := hid_nat t (Fl.chr c)
  have h2 := Fl.chr_nat c
  have h3 := Fl.chr_nat (oc t c)
  rw [oc_nat] at h3
  have hk := h
  unfold Fl.okc at hk
  rw [Bool.or_eq_true, decide_eq_true_eq, decide_eq_true_eq] at hk
  have : ((Fl.chr (oc t c)).toNat : Int) = ((hid t (Fl.chr c)).toNat : Int) := by
    rw [h1, h2, h3]
    have := c.toNat_lt
    split <;> split <;> (try split) <;> (try split) <;> (try split) <;> (try split) <;> omega
  omega
theorem hid_nl (t : Int) : hid t 10 = 10 := by unfold hid; rw [if_neg (by intro h; exact absurd h.1 (by decide))]
theorem draws_hid {a t : Int} {l : List UInt8} (ht : 0 ≤ t ∧ t < 3) (h : ∀ c ∈ l, Fl.okc c = true) : ∀ k, k ≤ l.length → Fl.draws a (l.map (oc t)) k = (Fl.draws a l k).map (hid t) := by
  intro k
  induction k with
  | zero => intro _; rfl
  | succ k ih =>
    intro hk
    have hc : Fl.chr ((l.map (oc t)).getD k 0) = hid t (Fl.chr (l.getD k 0)) := by rw [getD_map (oc_zero t)]; exact chr_hid ht (h _ (Fl.getD_mem (by omega)))
    by_cases hn : ((k : Int) + 1) % a = 0
    · rw [Fl.draws_nl hn, Fl.draws_nl hn, ih (by omega), hc]
      simp [hid_nl]
    · rw [Fl.draws_no hn, Fl.draws_no hn, ih (by omega), hc]
      simp
theorem hid_step {s : List UInt8} {t : Int} {k : Nat} (h : k < s.length) {x : UInt8} (e : hid t (s.getD k 0) = x) : (s.take k).map (hid t) ++ [x] = (s.take (k + 1)).map (hid t) := map_succ h e
theorem hid_yes {t : Int} {c : UInt8} (h1 : 48 ≤ (c.toNat : Int)) (h2 : (c.toNat : Int) ≤ 57) (h3 : ¬ IntKind.u8.wrap ((c.toNat : Int) - 48) = t) : hid t c = 35 := by
  rw [IntKind.wrap_u8] at h3
  exact if_pos (by omega)
theorem hid_no1 {t : Int} {c : UInt8} (h1 : (c.toNat : Int) < 48) : hid t c = c := if_neg (by omega)
theorem hid_no2 {t : Int} {c : UInt8} (h1 : 57 < (c.toNat : Int)) : hid t c = c := if_neg (by omega)
theorem hid_no3 {t : Int} {c : UInt8} (h1 : 48 ≤ (c.toNat : Int)) (h2 : (c.toNat : Int) ≤ 57) (h3 : IntKind.u8.wrap ((c.toNat : Int) - 48) = t) : hid t c = c := by
  rw [IntKind.wrap_u8] at h3
  exact if_neg (by omega)
theorem one_at {s : List UInt8} {k : Nat} (h : k < s.length) : (s.drop k).take (k + 1 - k) = [s.getD k 0] := by
  rw [show k + 1 - k = 1 by omega, List.drop_eq_getElem_cons h, List.take_succ_cons, List.take_zero, List.getD_eq_getElem?_getD, List.getElem?_eq_getElem h]
  rfl
theorem tk1 {l : List UInt8} {k : Nat} (h : k < l.length) : l.take (k + 1) = l.take k ++ [l.getD k 0] := by
  rw [List.take_add_one, List.getElem?_eq_getElem h]; simp [List.getD, h]
theorem shr4 (c : UInt8) : (c.toNat : Int) / 2 ^ min (4 : Int).toNat IntKind.u8.bits = ((c.toNat / 16 : Nat) : Int) := by
  rw [show min (4 : Int).toNat IntKind.u8.bits = 4 from rfl]; omega
theorem shl4 (c : UInt8) : IntKind.i64.wrap (((c.toNat / 16 : Nat) : Int) * 2 ^ min (4 : Int).toNat IntKind.i64.bits) = ((c.toNat / 16 : Nat) : Int) * 16 := by
  have := c.toNat_lt
  rw [show min (4 : Int).toNat IntKind.i64.bits = 4 from rfl, IntKind.wrap_i64]; omega
def s1 : List UInt8 := [48, 48, 46, 48, 48, 10, 48, 48, 46, 48, 48, 10, 49, 49, 46, 49, 49, 10, 49, 49, 46, 49, 49, 10]
def s2 : List UInt8 := [35, 35, 46, 35, 35, 10, 35, 35, 46, 35, 35, 10, 49, 49, 46, 49, 49, 10, 49, 49, 46, 49, 49, 10]
theorem ex_draw : Fl.draw ex.a ex.b ex.l = (s1, 0) := by decide +kernel
theorem ex_draw2 : Fl.draw (onlyR ex 1).1.a (onlyR ex 1).1.b (onlyR ex 1).1.l = (s2, 0) := by decide +kernel
theorem only_zero {g : C} {t : Int} (h : check g = 0) (h0 : (onlyR g t).2 = 0) : present g.ts t = true := by
  cases hp : present g.ts t with
  | true => rfl
  | false => exact absurd h0 (only_err (.inr hp))
theorem draw_ok {a b : Int} {l : List UInt8} (hv : Fl.validF a b l = true) : Fl.draw a b l = (Fl.draws a l l.length, 0) := if_pos hv
theorem draw_only {g : C} {t : Int} (h : check g = 0) (hp : present g.ts t = true) : Fl.draw (only g t).a (only g t).b (only g t).l = ((Fl.draws g.a g.l g.l.length).map (hid t), 0) := by
  have hv := (check_zero h).1
  rw [draw_ok (only_valid h hp)]
  show (Fl.draws g.a (g.l.map (oc t)) (g.l.map (oc t)).length, (0 : Int)) = _
  rw [List.length_map, draws_hid (only_b h hp).1 (Fl.validF_iff.1 hv).2 _ (Nat.le_refl _)]
end Cf
namespace E
open Go Go.RowKit
section
variable {P : Program} {n : Nat} {w0 : World} {F : Nat → Prop} {K : Kt} {l : Env} {H : List HP} {o : Oper}
theorem PV.sadd {t t' : TypeId} {x y : Operand} {a b : List UInt8} (ho : o.op = .binOp .add t x y t') (hx : ev l x = some (sv a)) (hy : ev l y = some (sv b)) (hs : a.length + b.length ≤ 9223372036854775807) : PV P n w0 F l H o (sv (a ++ b)) :=
  PV.bin ho hx hy eg_str fun w => by
    unfold sv
    rw [binOp_string_add, run_string_add_sum w _ _ (by simp [ByteArray.size]; omega), ByteArray.mk_append_mk]
theorem PV.ssub {t : TypeId} {x y q : Operand} {bs : List UInt8} {i j : Nat} (hT : P.underlying t = some .string) (ho : o.op = .slice t x (some y) (some q) none) (hx : ev l x = some (sv bs)) (hy : ev l y = some (.int .i64 (i : Int))) (hq : ev l q = some (.int .i64 (j : Int))) (h1 : i ≤ j) (h2 : j ≤ bs.length) :
    PV P n w0 F l H o (sv ((bs.drop i).take (j - i))) := fun a w ha _ => by
  have hx' := ha.ev hx
  unfold sv at hx'
  have hr := run_slice_string (P := P) w t ⟨bs.toArray⟩ .i64 .i64 (i : Int) (j : Int) hT (by omega) (by omega) (by simp [ByteArray.size]; omega)
  have hsa := run_sliceAt_string (P := P) w t (.string ⟨bs.toArray⟩) (some (.int .i64 (i : Int))) (some (.int .i64 (j : Int))) none hT
  simp only [execOp, ho, hx', ha.ev hy, ha.ev hq, Option.map_some, Option.map_none]
  simp [hsa, hr, Result.andThen, sv, ByteArray.extract_mk]
theorem PV.and15 {t t' : TypeId} {x y : Operand} {q : Nat} (hq : q < 256) (ho : o.op = .binOp .and t x y t') (hx : ev l x = some (.int .u8 (q : Int))) (hy : ev l y = some (.int .u8 15)) : PV P n w0 F l H o (.int .u8 ((q % 16 : Nat) : Int)) :=
  PV.bin ho hx hy eg_int fun w => by
    rw [show binOp .and t (.int .u8 (q : Int)) (.int .u8 15) = Op.intBits .and .u8 (q : Int) 15 from by simp [binOp]]
    simp only [Op.intBits]
    have hb : (BitVec.ofInt IntKind.u8.bits (q : Int) &&& BitVec.ofInt IntKind.u8.bits 15).toNat = q % 16 := by
      rw [BitVec.toNat_and, BitVec.ofInt_natCast, BitVec.toNat_ofNat, show IntKind.u8.bits = 8 from rfl, Nat.mod_eq_of_lt (by omega)]
      exact Nat.and_two_pow_sub_one_eq_mod q 4
    rw [hb]
    have : IntKind.u8.wrap ((q % 16 : Nat) : Int) = ((q % 16 : Nat) : Int) := by rw [IntKind.wrap_u8]; omega
    rw [this]
    simp
theorem PV.or4 {t t' : TypeId} {x y : Operand} {p q : Nat} (hp : p < 16) (hq : q < 16) (ho : o.op = .binOp .or t x y t') (hx : ev l x = some (.int .i64 ((p : Int) * 16))) (hy : ev l y = some (.int .i64 (q : Int))) : PV P n w0 F l H o (.int .i64 ((p : Int) * 16 + (q : Int))) :=
  PV.bin ho hx hy eg_int fun w => by
    have e1 : ((p : Int) * 16) = ((p * 16 : Nat) : Int) := by omega
    have hor : p * 16 ||| q = p * 16 + q := by
      have := Nat.shiftLeft_add_eq_or_of_lt (b := q) (i := 4) (by omega) p
      rw [Nat.shiftLeft_eq] at this
      exact this.symm
    rw [show binOp .or t (.int .i64 ((p : Int) * 16)) (.int .i64 (q : Int)) = Op.intBits .or .i64 ((p : Int) * 16) (q : Int) from by simp [binOp], e1]
    simp only [Op.intBits]
    have hb : (BitVec.ofInt IntKind.i64.bits ((p * 16 : Nat) : Int) ||| BitVec.ofInt IntKind.i64.bits (q : Int)).toNat = p * 16 + q := by
      rw [BitVec.toNat_or, BitVec.ofInt_natCast, BitVec.ofInt_natCast, BitVec.toNat_ofNat, BitVec.toNat_ofNat, show IntKind.i64.bits = 64 from rfl, Nat.mod_eq_of_lt (by omega), Nat.mod_eq_of_lt (by omega), hor]
    rw [hb]
    have : IntKind.i64.wrap ((p * 16 + q : Nat) : Int) = ((p * 16 + q : Nat) : Int) := by rw [IntKind.wrap_i64]; omega
    rw [this]
    simp
/-- a function without a body that searches a string for a byte. -/
def Ixb (P : Program) (f : Nat) : Prop := ∃ fn, P.funcs[f]? = some fn ∧ (fn.name == "runtime.NumGoroutine") = false ∧ fn.body.isNone = true ∧ Extern.findNext fn = none ∧ Extern.find fn = some Extern.BytealgIndexByte.indexByte
theorem PV.ixb {f : Nat} {fo : Operand} {xs : List Operand} {ts : Array TypeId} {s : List UInt8} {c : UInt8} (hf : Ixb P f) (ho : o.op = .call { callee := .value fo, args := xs.toArray, argTypes := ts }) (hfo : ev l fo = some (.func (.func f) #[] #[])) (hx : evs l xs = some [sv s, .int .u8 (c.toNat : Int)]) :
    PV P n w0 F l H o (.int .i64 (Lib.indexByte s c)) := fun a w ha _ => by
  obtain ⟨fn, h1, h2, h3, h4, h5⟩ := hf
  have hr := run_callFunc_extern (P := P) h1 h2 h3 h4 h5 #[sv s, .int .u8 (c.toNat : Int)] w
  unfold sv at hr
  rw [Lib.run_indexByteString] at hr
  have hxx := ha.evs hx
  unfold sv at hxx
  have hb : (c.toNat : Int).toNat.toUInt8 = c := by simp
  rw [hb] at hr
  simp [execOp, ho, resolve, Deferred.ofValue, invoke, ha.ev hfo, hxx, hr, Result.andThen]
end
end E
end Go.Proofs.Yteibcphdbkgcgaa
