/- Closed facts on the program (printed by gen.py). -/
import Derived.Test.YtbofflmmgokkhaaProg
import Derived.Test.YtbofflmmgokkhaaLaws
import Derived.KernelRfl
namespace Go.Proofs.Ytbofflmmgokkhaa
open Go Go.RowKit
set_option linter.unusedSimpArgs false
set_option linter.unusedVariables false
theorem bld93_0_1 (x0 : Int) (x1 : Int) (w : World) : (Instr.build 93 #[(0, .int .i64 x0), (1, .int .i64 x1)]).run Try.prog w = .ok (.agg #[.int .i64 x0, .int .i64 x1]) w := by kernel_rfl
theorem bsl22_0_  (w : World) : (Instr.buildSlice 22 0 #[]).run Try.prog w = .ok (.slice (some ⟨w.heap.size, 0, none⟩) 0 0) (w.alloc (.cells #[] 5)) := by kernel_rfl
theorem fa93_0 : E.FA Try.prog 93 0 0 := fun _ _ _ => by kernel_rfl
theorem fa93_1 : E.FA Try.prog 93 1 1 := fun _ _ _ => by kernel_rfl
theorem in5 : E.In Try.prog 5 (.int .u8 0) 1 1 := by unfold E.In; kernel_rfl
theorem in93 : E.In Try.prog 93 (.agg #[.int .i64 0, .int .i64 0]) 2 16 := by unfold E.In; kernel_rfl
theorem is93 : E.Is Try.prog 93 2 := ⟨fun _ => by kernel_rfl, fun _ => by kernel_rfl⟩
theorem mixed : Try.prog.follows .mixedOrders = true := by kernel_rfl
theorem na3 : E.Na Try.prog 3 := fun _ => by kernel_rfl
theorem na5 : E.Na Try.prog 5 := fun _ => by kernel_rfl
theorem nm19 : E.Nm Try.prog 19 := ⟨Try.f19, Try.func19, rfl, by kernel_rfl⟩
theorem nm20 : E.Nm Try.prog 20 := ⟨Try.f20, Try.func20, rfl, by kernel_rfl⟩
theorem nm21 : E.Nm Try.prog 21 := ⟨Try.f21, Try.func21, rfl, by kernel_rfl⟩
theorem nm22 : E.Nm Try.prog 22 := ⟨Try.f22, Try.func22, rfl, by kernel_rfl⟩
theorem nm23 : E.Nm Try.prog 23 := ⟨Try.f23, Try.func23, rfl, by kernel_rfl⟩
theorem nm24 : E.Nm Try.prog 24 := ⟨Try.f24, Try.func24, rfl, by kernel_rfl⟩
theorem nm25 : E.Nm Try.prog 25 := ⟨Try.f25, Try.func25, rfl, by kernel_rfl⟩
theorem nm26 : E.Nm Try.prog 26 := ⟨Try.f26, Try.func26, rfl, by kernel_rfl⟩
theorem nm37 : E.Nm Try.prog 37 := ⟨Try.f37, Try.func37, rfl, by kernel_rfl⟩
theorem nm55 : E.Nm Try.prog 55 := ⟨Try.f55, Try.func55, rfl, by kernel_rfl⟩
theorem nm58 : E.Nm Try.prog 58 := ⟨Try.f58, Try.func58, rfl, by kernel_rfl⟩
theorem nm59 : E.Nm Try.prog 59 := ⟨Try.f59, Try.func59, rfl, by kernel_rfl⟩
theorem nm64 : E.Nm Try.prog 64 := ⟨Try.f64, Try.func64, rfl, by kernel_rfl⟩
theorem nm65 : E.Nm Try.prog 65 := ⟨Try.f65, Try.func65, rfl, by kernel_rfl⟩
theorem nm66 : E.Nm Try.prog 66 := ⟨Try.f66, Try.func66, rfl, by kernel_rfl⟩
theorem nm67 : E.Nm Try.prog 67 := ⟨Try.f67, Try.func67, rfl, by kernel_rfl⟩
theorem nm68 : E.Nm Try.prog 68 := ⟨Try.f68, Try.func68, rfl, by kernel_rfl⟩
theorem nm69 : E.Nm Try.prog 69 := ⟨Try.f69, Try.func69, rfl, by kernel_rfl⟩
theorem nm70 : E.Nm Try.prog 70 := ⟨Try.f70, Try.func70, rfl, by kernel_rfl⟩
theorem nm71 : E.Nm Try.prog 71 := ⟨Try.f71, Try.func71, rfl, by kernel_rfl⟩
theorem nm72 : E.Nm Try.prog 72 := ⟨Try.f72, Try.func72, rfl, by kernel_rfl⟩
theorem nm73 : E.Nm Try.prog 73 := ⟨Try.f73, Try.func73, rfl, by kernel_rfl⟩
theorem nm74 : E.Nm Try.prog 74 := ⟨Try.f74, Try.func74, rfl, by kernel_rfl⟩
theorem nm75 : E.Nm Try.prog 75 := ⟨Try.f75, Try.func75, rfl, by kernel_rfl⟩
theorem nm76 : E.Nm Try.prog 76 := ⟨Try.f76, Try.func76, rfl, by kernel_rfl⟩
end Go.Proofs.Ytbofflmmgokkhaa
