/- FloorWalk: the law holds for every input, and each argument reads afterwards as it did before. -/
import Derived.Test.YtbofflmmgokkhaaRows
import Derived.Test.YtbofflmmgokkhaaFrame
import Derived.Test.YtbofflmmgokkhaaL10
namespace Go.Proofs.Ytbofflmmgokkhaa
open Go Go.RowKit Go.ChangeShapes Go.WideShapes Go.ChangeAt
set_option linter.unusedVariables false
set_option linter.unusedSimpArgs false
theorem own : ownKnob Try.prog.godebug = none := by kernel_rfl
theorem laidOut : laidOutB Try.prog = true := by kernel_rfl



set_option maxRecDepth 100000 in
theorem FloorWalk_lifted (os : Os) (started : os.Started) (H : Type) (enc : TypeId × Value → H) :
    ReturnsInHanded {} Try.checked os 15 .any (Rows.floorWalkSpec.pre6 enc Try.prog Try.f15 Rows.floorWalkRow.domain false) (Rows.floorWalkSpec.post enc Try.prog Try.f15 false true false false) := by
  refine returnsInHanded_of_change_sized (C := Try.checked) own started (by kernel_rfl) Try.func15
    (ChangeSpec.witness6 (enc := enc) (C := Try.checked) false ⟨#[], #[.int .i64 0, .int .i64 0, .int .i64 0, .slice none 0 0], []⟩ 8 (by kernel_rfl) (by kernel_rfl) (by kernel_rfl) (by kernel_rfl)) ?_
  intro W base args ds gs before hval0 hW _ hsz0 _
  have hsz : (DataW.weightsEach Try.prog (Try.f15.params.toList ++ Rows.floorWalkSpec.plain.varTypes Try.prog) (ds ++ gs)).all (· ≤ reachBytes) = true := hsz0
  clear hsz0
  have hval : ∀ (j : Nat) t v, Try.f15.params[j]? = some t → args[j]? = some v → Value.okWide Try.prog W .any base t v := hval0
  have hW' := hW
  obtain ⟨p, q, hA0, hV, rfl, hfz, hnd⟩ := hW
  have hA : DataW.TrodAll enc Try.prog W 0 (fun _ => true) true Try.f15.params.toList args.toList ds p := hA0
  rw [Try.params15] at hA hval hsz
  obtain ⟨v0, vs0, d0, ds0, p0, q0, hargs, rfl, rfl, h0, r0⟩ := trodAll_cons hA
  obtain ⟨v1, vs1, d1, ds1, p1, q1, rfl, rfl, rfl, h1, r1⟩ := trodAll_cons r0
  obtain ⟨v2, vs2, d2, ds2, p2, q2, rfl, rfl, rfl, h2, r2⟩ := trodAll_cons r1
  obtain ⟨v3, vs3, d3, ds3, p3, q3, rfl, rfl, rfl, h3, r3⟩ := trodAll_cons r2
  obtain ⟨rfl, rfl, rfl⟩ := trodAll_nil r3
  obtain rfl : args = #[v0, v1, v2, v3] := by cases args; simp_all
  obtain ⟨x0, rfl, z0_0, z0_1⟩ := E.op_i64 Try.underlying3 (hval 0 3 v0 rfl rfl) h0 (E.weights_at hsz (j := 0) rfl rfl)
  obtain ⟨x1, rfl, z1_0, z1_1⟩ := E.op_i64 Try.underlying3 (hval 1 3 v1 rfl rfl) h1 (E.weights_at hsz (j := 1) rfl rfl)
  obtain ⟨x2, rfl, z2_0, z2_1⟩ := E.op_i64 Try.underlying3 (hval 2 3 v2 rfl rfl) h2 (E.weights_at hsz (j := 2) rfl rfl)
  obtain ⟨A3, c3, x3, rfl, z3_0, z3_1⟩ := E.op_u8s Try.underlying22 Try.underlying5 (by kernel_rfl) (by kernel_rfl) (hval 3 22 v3 rfl rfl) h3 (E.weights_at hsz (j := 3) rfl rfl)
  clear hA0 hval0
  refine (FloorWalk_ok x0 x1 x2 A3 c3 x3 W (by omega) z3_0).mono fun e W' ⟨v, Hn, he, ⟨hv, _⟩, hA1⟩ => ?_
  subst hv he
  exact ⟨_, rfl, E.law_fin laidOut (by kernel_rfl) rfl rfl Try.underlying4 (fun gs hg => by subst hg; rfl) hW' hA1⟩

/-- FloorWalk: for every input the law returns true, and each argument reads afterwards as it did. -/
theorem floorWalk_holds : Rows.FloorWalkSaid :=
  OpenClaim.holds_of_wide 15 Try.f15 rfl rfl rfl rfl rfl rfl rfl ⟨rfl, rfl, rfl, rfl, rfl⟩ rfl rfl rfl rfl rfl (by kernel_rfl) Try.func15 (by kernel_rfl)
    (of_decide_eq_true (by kernel_rfl)) (by unfold Func.isWrapper; first | (rw [if_pos (by decide +kernel)]; kernel_rfl) | (rw [if_neg (by decide +kernel)]; exact ⟨rfl, rfl⟩))
    (fun os started H enc _ => FloorWalk_lifted os started H enc)
#print axioms floorWalk_holds
end Go.Proofs.Ytbofflmmgokkhaa
