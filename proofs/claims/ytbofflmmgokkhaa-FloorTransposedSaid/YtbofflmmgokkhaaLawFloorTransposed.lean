/- FloorTransposed: the law holds for every input, and each argument reads afterwards as it did before. -/
import Derived.Test.YtbofflmmgokkhaaRows
import Derived.Test.YtbofflmmgokkhaaFrame
import Derived.Test.YtbofflmmgokkhaaL14
namespace Go.Proofs.Ytbofflmmgokkhaa
open Go Go.RowKit Go.ChangeShapes Go.WideShapes Go.ChangeAt
set_option linter.unusedVariables false
set_option linter.unusedSimpArgs false
theorem own : ownKnob Try.prog.godebug = none := by kernel_rfl
theorem laidOut : laidOutB Try.prog = true := by kernel_rfl

set_option maxRecDepth 100000 in
theorem rc48 {H : Type} {enc : TypeId × Value → H} {w : World} {fuel : Nat} {cs : List Value} {x : DataW H × List MemPlace} (h : DataW.trod enc Try.prog w 0 (fun _ => true) true fuel 48 cs = some x) (hw : (x.1.weights Try.prog 48).all (· ≤ reachBytes) = true) :
    ∃ (x0 : Int) (x1 : Int) (A2 : Option Addr) (c2 : Nat) (x2 : List UInt8), cs = [.int .i64 x0, .int .i64 x1, .slice A2 x2.length c2] ∧ -9223372036854775808 ≤ x0 ∧ x0 ≤ 9223372036854775807 ∧ -9223372036854775808 ≤ x1 ∧ x1 ≤ 9223372036854775807 ∧ E.Rd w (E.Old w) A2 (E.u8s x2) ∧ x2.length ≤ 140737488351232 := by
  obtain ⟨xs, n, _, rfl, hl, hlen, hf⟩ := DataW.trod_struct Try.underlying48 h
  rw [show Try.prog.cellsOf 48 = 3 from by kernel_rfl] at hl
  match cs, hl with
  | [k0, k1, k2], _ =>
  match xs, hlen with
  | [y0, y1, y2], _ =>
  have g0 : DataW.trod enc Try.prog w 0 (fun _ => true) true n 3 [k0] = some y0 := E.tk (t := 3) (k := 1) (xs := List.drop 0 [k0, k1, k2]) (o := some y0) (hf 0 _ rfl) (by kernel_rfl)
  have g1 : DataW.trod enc Try.prog w 0 (fun _ => true) true n 3 [k1] = some y1 := E.tk (t := 3) (k := 1) (xs := List.drop 1 [k0, k1, k2]) (o := some y1) (hf 1 _ rfl) (by kernel_rfl)
  have g2 : DataW.trod enc Try.prog w 0 (fun _ => true) true n 22 [k2] = some y2 := E.tk (t := 22) (k := 1) (xs := List.drop 2 [k0, k1, k2]) (o := some y2) (hf 2 _ rfl) (by kernel_rfl)
  simp only [DataW.weights, Try.underlying48, List.map_cons, List.map_nil] at hw
  obtain ⟨x0, q0, p0_0, p0_1⟩ := E.rc_i64 Try.underlying3 g0
  obtain ⟨x1, q1, p1_0, p1_1⟩ := E.rc_i64 Try.underlying3 g1
  obtain ⟨A2, c2, x2, q2, p2_0, p2_1⟩ := E.rc_u8s Try.underlying22 Try.underlying5 (by kernel_rfl) (by kernel_rfl) g2 (E.weights_at hw (j := 2) rfl rfl)
  simp only [List.cons.injEq, and_true] at q0
  simp only [List.cons.injEq, and_true] at q1
  simp only [List.cons.injEq, and_true] at q2
  obtain rfl := q0
  obtain rfl := q1
  obtain rfl := q2
  exact ⟨x0, x1, A2, c2, x2, rfl, p0_0, p0_1, p1_0, p1_1, p2_0, p2_1⟩

set_option maxRecDepth 100000 in
theorem op48 {H : Type} {enc : TypeId × Value → H} {w : World} {r : Reach} {b0 : Nat} {v : Value} {d : DataW H} {ps : List MemPlace} (hval : Value.okWide Try.prog w r b0 48 v) (h : DataW.Trod enc Try.prog w 0 (fun _ => true) true 48 v d ps) (hw : (d.weights Try.prog 48).all (· ≤ reachBytes) = true) :
    ∃ (x0 : Int) (x1 : Int) (A2 : Option Addr) (c2 : Nat) (x2 : List UInt8), v = .agg #[.int .i64 x0, .int .i64 x1, .slice A2 x2.length c2] ∧ -9223372036854775808 ≤ x0 ∧ x0 ≤ 9223372036854775807 ∧ -9223372036854775808 ≤ x1 ∧ x1 ≤ 9223372036854775807 ∧ E.Rd w (E.Old w) A2 (E.u8s x2) ∧ x2.length ≤ 140737488351232 := by
  obtain ⟨cs, rfl, _⟩ := okWide_struct Try.underlying48 hval
  obtain ⟨fuel, hf⟩ := h
  obtain ⟨x0, x1, A2, c2, x2, e, p0, p1, p2, p3, p4, p5⟩ := rc48 hf hw
  simp only [Value.cells] at e
  have e2 : cs = #[.int .i64 x0, .int .i64 x1, .slice A2 x2.length c2] := by cases cs; simp at e; rw [e]
  subst e2
  exact ⟨x0, x1, A2, c2, x2, rfl, p0, p1, p2, p3, p4, p5⟩

set_option maxRecDepth 100000 in
theorem FloorTransposed_lifted (os : Os) (started : os.Started) (H : Type) (enc : TypeId × Value → H) :
    ReturnsInHanded {} Try.checked os 17 .any (Rows.floorTransposedSpec.pre6 enc Try.prog Try.f17 Rows.floorTransposedRow.domain false) (Rows.floorTransposedSpec.post enc Try.prog Try.f17 false true false false) := by
  refine returnsInHanded_of_change_sized (C := Try.checked) own started (by kernel_rfl) Try.func17
    (ChangeSpec.witness6 (enc := enc) (C := Try.checked) false ⟨#[], #[.agg #[.int .i64 0, .int .i64 0, .slice none 0 0], .int .i64 0, .int .i64 0], []⟩ 8 (by kernel_rfl) (by kernel_rfl) (by kernel_rfl) (by kernel_rfl)) ?_
  intro W base args ds gs before hval0 hW _ hsz0 _
  have hsz : (DataW.weightsEach Try.prog (Try.f17.params.toList ++ Rows.floorTransposedSpec.plain.varTypes Try.prog) (ds ++ gs)).all (· ≤ reachBytes) = true := hsz0
  clear hsz0
  have hval : ∀ (j : Nat) t v, Try.f17.params[j]? = some t → args[j]? = some v → Value.okWide Try.prog W .any base t v := hval0
  have hW' := hW
  obtain ⟨p, q, hA0, hV, rfl, hfz, hnd⟩ := hW
  have hA : DataW.TrodAll enc Try.prog W 0 (fun _ => true) true Try.f17.params.toList args.toList ds p := hA0
  rw [Try.params17] at hA hval hsz
  obtain ⟨v0, vs0, d0, ds0, p0, q0, hargs, rfl, rfl, h0, r0⟩ := trodAll_cons hA
  obtain ⟨v1, vs1, d1, ds1, p1, q1, rfl, rfl, rfl, h1, r1⟩ := trodAll_cons r0
  obtain ⟨v2, vs2, d2, ds2, p2, q2, rfl, rfl, rfl, h2, r2⟩ := trodAll_cons r1
  obtain ⟨rfl, rfl, rfl⟩ := trodAll_nil r2
  obtain rfl : args = #[v0, v1, v2] := by cases args; simp_all
  obtain ⟨x0, x1, A2, c2, x2, rfl, z0_0, z0_1, z0_2, z0_3, z0_4, z0_5⟩ := op48 (hval 0 48 v0 rfl rfl) h0 (E.weights_at hsz (j := 0) rfl rfl)
  obtain ⟨x3, rfl, z1_0, z1_1⟩ := E.op_i64 Try.underlying3 (hval 1 3 v1 rfl rfl) h1 (E.weights_at hsz (j := 1) rfl rfl)
  obtain ⟨x4, rfl, z2_0, z2_1⟩ := E.op_i64 Try.underlying3 (hval 2 3 v2 rfl rfl) h2 (E.weights_at hsz (j := 2) rfl rfl)
  clear hA0 hval0
  refine (FloorTransposed_ok x0 x1 A2 c2 x2 x3 x4 W (by omega) z0_4).mono fun e W' ⟨v, Hn, he, ⟨hv, _⟩, hA1⟩ => ?_
  subst hv he
  exact ⟨_, rfl, E.law_fin laidOut (by kernel_rfl) rfl rfl Try.underlying4 (fun gs hg => by subst hg; rfl) hW' hA1⟩

/-- FloorTransposed: for every input the law returns true, and each argument reads afterwards as it did. -/
theorem floorTransposed_holds : Rows.FloorTransposedSaid :=
  OpenClaim.holds_of_wide 17 Try.f17 rfl rfl rfl rfl rfl rfl rfl ⟨rfl, rfl, rfl, rfl, rfl⟩ rfl rfl rfl rfl rfl (by kernel_rfl) Try.func17 (by kernel_rfl)
    (of_decide_eq_true (by kernel_rfl)) (by unfold Func.isWrapper; first | (rw [if_pos (by decide +kernel)]; kernel_rfl) | (rw [if_neg (by decide +kernel)]; exact ⟨rfl, rfl⟩))
    (fun os started H enc _ => FloorTransposed_lifted os started H enc)
#print axioms floorTransposed_holds
end Go.Proofs.Ytbofflmmgokkhaa
