/- FloorSliceShares: the law holds for every input, and each argument reads afterwards as it did before. -/
import Derived.Test.YtbofflmmgokkhaaRows
import Derived.Test.YtbofflmmgokkhaaFrame
import Derived.Test.YtbofflmmgokkhaaL9
namespace Go.Proofs.Ytbofflmmgokkhaa
open Go Go.RowKit Go.ChangeShapes Go.WideShapes Go.ChangeAt
set_option linter.unusedVariables false
set_option linter.unusedSimpArgs false
theorem own : ownKnob Try.prog.godebug = none := by kernel_rfl
theorem laidOut : laidOutB Try.prog = true := by kernel_rfl



set_option maxRecDepth 100000 in
theorem FloorSliceShares_lifted (os : Os) (started : os.Started) (H : Type) (enc : TypeId × Value → H) :
    ReturnsInHanded {} Try.checked os 12 .any (Rows.floorSliceSharesSpec.pre6 enc Try.prog Try.f12 Rows.floorSliceSharesRow.domain false) (Rows.floorSliceSharesSpec.post enc Try.prog Try.f12 false true false false) := by
  refine returnsInHanded_of_change_sized (C := Try.checked) own started (by kernel_rfl) Try.func12
    (ChangeSpec.witness6 (enc := enc) (C := Try.checked) false ⟨#[], #[.slice none 0 0], []⟩ 8 (by kernel_rfl) (by kernel_rfl) (by kernel_rfl) (by kernel_rfl)) ?_
  intro W base args ds gs before hval0 hW _ hsz0 _
  have hsz : (DataW.weightsEach Try.prog (Try.f12.params.toList ++ Rows.floorSliceSharesSpec.plain.varTypes Try.prog) (ds ++ gs)).all (· ≤ reachBytes) = true := hsz0
  clear hsz0
  have hval : ∀ (j : Nat) t v, Try.f12.params[j]? = some t → args[j]? = some v → Value.okWide Try.prog W .any base t v := hval0
  have hW' := hW
  obtain ⟨p, q, hA0, hV, rfl, hfz, hnd⟩ := hW
  have hA : DataW.TrodAll enc Try.prog W 0 (fun _ => true) true Try.f12.params.toList args.toList ds p := hA0
  rw [Try.params12] at hA hval hsz
  obtain ⟨v0, vs0, d0, ds0, p0, q0, hargs, rfl, rfl, h0, r0⟩ := trodAll_cons hA
  obtain ⟨rfl, rfl, rfl⟩ := trodAll_nil r0
  obtain rfl : args = #[v0] := by cases args; simp_all
  obtain ⟨A0, c0, x0, rfl, z0_0, z0_1⟩ := E.op_u8s Try.underlying22 Try.underlying5 (by kernel_rfl) (by kernel_rfl) (hval 0 22 v0 rfl rfl) h0 (E.weights_at hsz (j := 0) rfl rfl)
  clear hA0 hval0
  refine (FloorSliceShares_ok A0 c0 x0 W (by omega) z0_0).mono fun e W' ⟨v, Hn, he, ⟨hv, _⟩, hA1⟩ => ?_
  subst hv he
  exact ⟨_, rfl, E.law_fin laidOut (by kernel_rfl) rfl rfl Try.underlying4 (fun gs hg => by subst hg; rfl) hW' hA1⟩

/-- FloorSliceShares: for every input the law returns true, and each argument reads afterwards as it did. -/
theorem floorSliceShares_holds : Rows.FloorSliceSharesSaid :=
  OpenClaim.holds_of_wide 12 Try.f12 rfl rfl rfl rfl rfl rfl rfl ⟨rfl, rfl, rfl, rfl, rfl⟩ rfl rfl rfl rfl rfl (by kernel_rfl) Try.func12 (by kernel_rfl)
    (of_decide_eq_true (by kernel_rfl)) (by unfold Func.isWrapper; first | (rw [if_pos (by decide +kernel)]; kernel_rfl) | (rw [if_neg (by decide +kernel)]; exact ⟨rfl, rfl⟩))
    (fun os started H enc _ => FloorSliceShares_lifted os started H enc)
#print axioms floorSliceShares_holds
end Go.Proofs.Ytbofflmmgokkhaa
