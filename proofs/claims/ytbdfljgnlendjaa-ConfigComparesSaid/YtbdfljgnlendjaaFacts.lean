/- Closed facts on the program (printed by gen.py). -/
import Derived.Test.YtbdfljgnlendjaaProg
import Derived.Test.YtbdfljgnlendjaaLaws
import Derived.KernelRfl
namespace Go.Proofs.Ytbdfljgnlendjaa
open Go Go.RowKit
set_option linter.unusedSimpArgs false
set_option linter.unusedVariables false
theorem bsl25_1_0 (x0 : Option Addr) (m0 c0 : Nat) (x1 : Option Addr) (m1 c1 : Nat) (x2 : Option Addr) (m2 c2 : Nat) (x3 : Int) (x4 : Int) (x5 : Int) (x6 : Int) (x7 : Int) (w : World) : (Instr.buildSlice 25 1 #[(0, .agg #[.slice x0 m0 c0, .slice x1 m1 c1, .slice x2 m2 c2, .int .i64 x3, .int .i64 x4, .int .i64 x5, .int .i64 x6, .int .i64 x7])]).run Try.prog w = .ok (.slice (some ⟨w.heap.size, 0, none⟩) 1 1) (w.alloc (.cells #[.slice x0 m0 c0, .slice x1 m1 c1, .slice x2 m2 c2, .int .i64 x3, .int .i64 x4, .int .i64 x5, .int .i64 x6, .int .i64 x7] 33)) := by kernel_rfl
theorem fa24_0 : E.FA Try.prog 24 0 0 := fun _ _ _ => by kernel_rfl
theorem fa24_1 : E.FA Try.prog 24 1 1 := fun _ _ _ => by kernel_rfl
theorem fa24_2 : E.FA Try.prog 24 2 2 := fun _ _ _ => by kernel_rfl
theorem fa28_0 : E.FA Try.prog 28 0 0 := fun _ _ _ => by kernel_rfl
theorem fa28_1 : E.FA Try.prog 28 1 3 := fun _ _ _ => by kernel_rfl
theorem fa28_2 : E.FA Try.prog 28 2 4 := fun _ _ _ => by kernel_rfl
theorem fa28_3 : E.FA Try.prog 28 3 5 := fun _ _ _ => by kernel_rfl
theorem fa33_0 : E.FA Try.prog 33 0 0 := fun _ _ _ => by kernel_rfl
theorem fa33_1 : E.FA Try.prog 33 1 1 := fun _ _ _ => by kernel_rfl
theorem fa33_2 : E.FA Try.prog 33 2 2 := fun _ _ _ => by kernel_rfl
theorem fa33_3 : E.FA Try.prog 33 3 3 := fun _ _ _ => by kernel_rfl
theorem fa33_4 : E.FA Try.prog 33 4 4 := fun _ _ _ => by kernel_rfl
theorem fa33_5 : E.FA Try.prog 33 5 5 := fun _ _ _ => by kernel_rfl
theorem fa33_6 : E.FA Try.prog 33 6 6 := fun _ _ _ => by kernel_rfl
theorem fa33_7 : E.FA Try.prog 33 7 7 := fun _ _ _ => by kernel_rfl
theorem in22 : E.In Try.prog 22 (.slice none 0 0) 1 24 := by unfold E.In; kernel_rfl
theorem in24 : E.In Try.prog 24 (.agg #[.int .i64 0, .int .i64 0, .slice none 0 0]) 3 40 := by unfold E.In; kernel_rfl
theorem in25 : E.In Try.prog 25 (.slice none 0 0) 1 24 := by unfold E.In; kernel_rfl
theorem in28 : E.In Try.prog 28 (.agg #[.int .i64 0, .int .i64 0, .slice none 0 0, .slice none 0 0, .slice none 0 0, .int .u64 0]) 6 96 := by unfold E.In; kernel_rfl
theorem in3 : E.In Try.prog 3 (.int .i64 0) 1 8 := by unfold E.In; kernel_rfl
theorem in31 : E.In Try.prog 31 (.slice none 0 0) 1 24 := by unfold E.In; kernel_rfl
theorem in33 : E.In Try.prog 33 (.agg #[.slice none 0 0, .slice none 0 0, .slice none 0 0, .int .i64 0, .int .i64 0, .int .i64 0, .int .i64 0, .int .i64 0]) 8 112 := by unfold E.In; kernel_rfl
theorem in5 : E.In Try.prog 5 (.int .u8 0) 1 1 := by unfold E.In; kernel_rfl
theorem is24 : E.Is Try.prog 24 3 := ⟨fun _ => by kernel_rfl, fun _ => by kernel_rfl⟩
theorem is28 : E.Is Try.prog 28 6 := ⟨fun _ => by kernel_rfl, fun _ => by kernel_rfl⟩
theorem is33 : E.Is Try.prog 33 8 := ⟨fun _ => by kernel_rfl, fun _ => by kernel_rfl⟩
theorem mixed : Try.prog.follows .mixedOrders = true := by kernel_rfl
theorem na22 : E.Na Try.prog 22 := fun _ => by kernel_rfl
theorem na25 : E.Na Try.prog 25 := fun _ => by kernel_rfl
theorem na26 : E.Na Try.prog 26 := fun _ => by kernel_rfl
theorem na3 : E.Na Try.prog 3 := fun _ => by kernel_rfl
theorem na31 : E.Na Try.prog 31 := fun _ => by kernel_rfl
theorem na5 : E.Na Try.prog 5 := fun _ => by kernel_rfl
theorem nm100 : E.Nm Try.prog 100 := ⟨Try.f100, Try.func100, rfl, by kernel_rfl⟩
theorem nm19 : E.Nm Try.prog 19 := ⟨Try.f19, Try.func19, rfl, by kernel_rfl⟩
theorem nm20 : E.Nm Try.prog 20 := ⟨Try.f20, Try.func20, rfl, by kernel_rfl⟩
theorem nm21 : E.Nm Try.prog 21 := ⟨Try.f21, Try.func21, rfl, by kernel_rfl⟩
theorem nm22 : E.Nm Try.prog 22 := ⟨Try.f22, Try.func22, rfl, by kernel_rfl⟩
theorem nm26 : E.Nm Try.prog 26 := ⟨Try.f26, Try.func26, rfl, by kernel_rfl⟩
theorem nm30 : E.Nm Try.prog 30 := ⟨Try.f30, Try.func30, rfl, by kernel_rfl⟩
theorem nm55 : E.Nm Try.prog 55 := ⟨Try.f55, Try.func55, rfl, by kernel_rfl⟩
theorem nm56 : E.Nm Try.prog 56 := ⟨Try.f56, Try.func56, rfl, by kernel_rfl⟩
theorem nm57 : E.Nm Try.prog 57 := ⟨Try.f57, Try.func57, rfl, by kernel_rfl⟩
theorem nm58 : E.Nm Try.prog 58 := ⟨Try.f58, Try.func58, rfl, by kernel_rfl⟩
theorem nm59 : E.Nm Try.prog 59 := ⟨Try.f59, Try.func59, rfl, by kernel_rfl⟩
end Go.Proofs.Ytbdfljgnlendjaa
