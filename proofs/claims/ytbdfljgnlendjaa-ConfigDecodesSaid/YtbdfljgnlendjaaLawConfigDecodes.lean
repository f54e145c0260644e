/- ConfigDecodes: the law holds for every input, and each argument reads afterwards as it did before. -/
import Derived.Test.YtbdfljgnlendjaaRows
import Derived.Test.YtbdfljgnlendjaaFrameC
import Derived.Test.YtbdfljgnlendjaaL6
namespace Go.Proofs.Ytbdfljgnlendjaa
open Go Go.RowKit Go.ChangeShapes Go.WideShapes Go.ChangeAt
set_option linter.unusedVariables false
set_option linter.unusedSimpArgs false
theorem own : ownKnob Try.prog.godebug = none := by kernel_rfl
theorem laidOut : laidOutB Try.prog = true := by kernel_rfl



set_option maxRecDepth 100000 in
theorem ConfigDecodes_lifted (os : Os) (started : os.Started) (H : Type) (enc : TypeId × Value → H) :
    ReturnsInHanded {} Try.checked os 8 .any (Rows.configDecodesSpec.pre6 enc Try.prog Try.f8 Rows.configDecodesRow.domain false) (Rows.configDecodesSpec.post enc Try.prog Try.f8 false true false false) := by
  refine returnsInHanded_of_change_sized (C := Try.checked) own started (by kernel_rfl) Try.func8
    (ChangeSpec.witness6 (enc := enc) (C := Try.checked) false ⟨#[], #[.slice none 0 0], []⟩ 8 (by kernel_rfl) (by kernel_rfl) (by kernel_rfl) (by kernel_rfl)) ?_
  intro W base args ds gs before hval0 hW _ hsz0 _
  have hsz : (DataW.weightsEach Try.prog (Try.f8.params.toList ++ Rows.configDecodesSpec.plain.varTypes Try.prog) (ds ++ gs)).all (· ≤ reachBytes) = true := hsz0
  clear hsz0
  have hval : ∀ (j : Nat) t v, Try.f8.params[j]? = some t → args[j]? = some v → Value.okWide Try.prog W .any base t v := hval0
  have hW' := hW
  obtain ⟨p, q, hA0, hV, rfl, hfz, hnd⟩ := hW
  have hA : DataW.TrodAll enc Try.prog W 0 (fun _ => true) true Try.f8.params.toList args.toList ds p := hA0
  rw [Try.params8] at hA hval hsz
  obtain ⟨v0, vs0, d0, ds0, p0, q0, hargs, rfl, rfl, h0, r0⟩ := trodAll_cons hA
  obtain ⟨rfl, rfl, rfl⟩ := trodAll_nil r0
  obtain rfl : args = #[v0] := by cases args; simp_all
  obtain ⟨A0, c0, x0, rfl, z0_0, z0_1⟩ := E.op_u8s Try.underlying22 Try.underlying5 (by kernel_rfl) (by kernel_rfl) (hval 0 22 v0 rfl rfl) h0 (E.weights_at hsz (j := 0) rfl rfl)
  clear hA0 hval0
  refine (ConfigDecodes_ok A0 c0 x0 W (E.slice_cap Try.underlying22 (hval 0 22 _ rfl rfl)) z0_1 z0_0).mono fun e W' ⟨v, Hn, he, ⟨hv, _⟩, hA1⟩ => ?_
  subst hv he
  exact ⟨_, rfl, E.law_fin laidOut (by kernel_rfl) rfl rfl Try.underlying4 (fun gs hg => by subst hg; rfl) hW' hA1⟩

/-- ConfigDecodes: for every input the law returns true, and each argument reads afterwards as it did. -/
theorem configDecodes_holds : Rows.ConfigDecodesSaid :=
  OpenClaim.holds_of_wide 8 Try.f8 rfl rfl rfl rfl rfl rfl rfl ⟨rfl, rfl, rfl, rfl, rfl⟩ rfl rfl rfl rfl rfl (by kernel_rfl) Try.func8 (by kernel_rfl)
    (of_decide_eq_true (by kernel_rfl)) (by unfold Func.isWrapper; first | (rw [if_pos (by decide +kernel)]; kernel_rfl) | (rw [if_neg (by decide +kernel)]; exact ⟨rfl, rfl⟩))
    (fun os started H enc _ => ConfigDecodes_lifted os started H enc)
#print axioms configDecodes_holds
end Go.Proofs.Ytbdfljgnlendjaa
