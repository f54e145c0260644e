/- Closed facts on the program (printed by gen.py). -/
import Derived.Test.YtbofflmmgokkhaaProg
import Derived.Test.YtbofflmmgokkhaaLaws
import Derived.KernelRfl
namespace Go.Proofs.Ytbofflmmgokkhaa
open Go Go.RowKit
set_option linter.unusedSimpArgs false
set_option linter.unusedVariables false
theorem bld104_0_1 (x0 : Int) (x1 : Int) (x2 : Option Addr) (m2 c2 : Nat) (w : World) : (Instr.build 104 #[(0, .agg #[.int .i64 x0, .int .i64 x1]), (1, .slice x2 m2 c2)]).run Try.prog w = .ok (.agg #[.int .i64 x0, .int .i64 x1, .slice x2 m2 c2]) w := by kernel_rfl
theorem bld48_  (w : World) : (Instr.build 48 #[]).run Try.prog w = .ok (.agg #[.int .i64 0, .int .i64 0, .slice none 0 0]) w := by kernel_rfl
theorem bld48_0_1 (x0 : Int) (x1 : Int) (w : World) : (Instr.build 48 #[(0, .int .i64 x0), (1, .int .i64 x1)]).run Try.prog w = .ok (.agg #[.int .i64 x0, .int .i64 x1, .slice none 0 0]) w := by kernel_rfl
theorem bld48_0_1_2 (x0 : Int) (x1 : Int) (x2 : Option Addr) (m2 c2 : Nat) (w : World) : (Instr.build 48 #[(0, .int .i64 x0), (1, .int .i64 x1), (2, .slice x2 m2 c2)]).run Try.prog w = .ok (.agg #[.int .i64 x0, .int .i64 x1, .slice x2 m2 c2]) w := by kernel_rfl
theorem bld93_0_1 (x0 : Int) (x1 : Int) (w : World) : (Instr.build 93 #[(0, .int .i64 x0), (1, .int .i64 x1)]).run Try.prog w = .ok (.agg #[.int .i64 x0, .int .i64 x1]) w := by kernel_rfl
theorem bsl22_0_  (w : World) : (Instr.buildSlice 22 0 #[]).run Try.prog w = .ok (.slice (some ⟨w.heap.size, 0, none⟩) 0 0) (w.alloc (.cells #[] 5)) := by kernel_rfl
theorem bsl22_1_0 (x0 : Int) (w : World) : (Instr.buildSlice 22 1 #[(0, .int .u8 x0)]).run Try.prog w = .ok (.slice (some ⟨w.heap.size, 0, none⟩) 1 1) (w.alloc (.cells #[.int .u8 x0] 5)) := by kernel_rfl
theorem bsl22_4_0_1_2_3 (x0 : Int) (x1 : Int) (x2 : Int) (x3 : Int) (w : World) : (Instr.buildSlice 22 4 #[(0, .int .u8 x0), (1, .int .u8 x1), (2, .int .u8 x2), (3, .int .u8 x3)]).run Try.prog w = .ok (.slice (some ⟨w.heap.size, 0, none⟩) 4 4) (w.alloc (.cells #[.int .u8 x0, .int .u8 x1, .int .u8 x2, .int .u8 x3] 5)) := by kernel_rfl
theorem bsl22_5_0_1_2_3_4 (x0 : Int) (x1 : Int) (x2 : Int) (x3 : Int) (x4 : Int) (w : World) : (Instr.buildSlice 22 5 #[(0, .int .u8 x0), (1, .int .u8 x1), (2, .int .u8 x2), (3, .int .u8 x3), (4, .int .u8 x4)]).run Try.prog w = .ok (.slice (some ⟨w.heap.size, 0, none⟩) 5 5) (w.alloc (.cells #[.int .u8 x0, .int .u8 x1, .int .u8 x2, .int .u8 x3, .int .u8 x4] 5)) := by kernel_rfl
theorem bsl22_6_0_1_2_3_4_5 (x0 : Int) (x1 : Int) (x2 : Int) (x3 : Int) (x4 : Int) (x5 : Int) (w : World) : (Instr.buildSlice 22 6 #[(0, .int .u8 x0), (1, .int .u8 x1), (2, .int .u8 x2), (3, .int .u8 x3), (4, .int .u8 x4), (5, .int .u8 x5)]).run Try.prog w = .ok (.slice (some ⟨w.heap.size, 0, none⟩) 6 6) (w.alloc (.cells #[.int .u8 x0, .int .u8 x1, .int .u8 x2, .int .u8 x3, .int .u8 x4, .int .u8 x5] 5)) := by kernel_rfl
theorem bsl54_1_0 (x0 : Int) (w : World) : (Instr.buildSlice 54 1 #[(0, .int .i64 x0)]).run Try.prog w = .ok (.slice (some ⟨w.heap.size, 0, none⟩) 1 1) (w.alloc (.cells #[.int .i64 x0] 3)) := by kernel_rfl
theorem bsl54_2_0_1 (x0 : Int) (x1 : Int) (w : World) : (Instr.buildSlice 54 2 #[(0, .int .i64 x0), (1, .int .i64 x1)]).run Try.prog w = .ok (.slice (some ⟨w.heap.size, 0, none⟩) 2 2) (w.alloc (.cells #[.int .i64 x0, .int .i64 x1] 3)) := by kernel_rfl
theorem bsl54_4_0_1_2_3 (x0 : Int) (x1 : Int) (x2 : Int) (x3 : Int) (w : World) : (Instr.buildSlice 54 4 #[(0, .int .i64 x0), (1, .int .i64 x1), (2, .int .i64 x2), (3, .int .i64 x3)]).run Try.prog w = .ok (.slice (some ⟨w.heap.size, 0, none⟩) 4 4) (w.alloc (.cells #[.int .i64 x0, .int .i64 x1, .int .i64 x2, .int .i64 x3] 3)) := by kernel_rfl
theorem fa104_0 : E.FA Try.prog 104 0 0 := fun _ _ _ => by kernel_rfl
theorem fa104_1 : E.FA Try.prog 104 1 2 := fun _ _ _ => by kernel_rfl
theorem fa48_0 : E.FA Try.prog 48 0 0 := fun _ _ _ => by kernel_rfl
theorem fa48_1 : E.FA Try.prog 48 1 1 := fun _ _ _ => by kernel_rfl
theorem fa48_2 : E.FA Try.prog 48 2 2 := fun _ _ _ => by kernel_rfl
theorem fa93_0 : E.FA Try.prog 93 0 0 := fun _ _ _ => by kernel_rfl
theorem fa93_1 : E.FA Try.prog 93 1 1 := fun _ _ _ => by kernel_rfl
theorem in102 : E.In Try.prog 102 (.agg #[.bool false, .bool false, .bool false, .bool false, .bool false, .bool false, .bool false, .bool false, .bool false, .bool false, .bool false, .bool false, .bool false, .bool false, .bool false, .bool false, .bool false, .bool false, .bool false, .bool false, .bool false, .bool false, .bool false, .bool false, .bool false, .bool false, .bool false, .bool false, .bool false, .bool false, .bool false, .bool false, .bool false, .bool false, .bool false, .bool false, .bool false, .bool false, .bool false, .bool false, .bool false, .bool false, .bool false, .bool false, .bool false, .bool false, .bool false, .bool false, .bool false, .bool false, .bool false, .bool false, .bool false, .bool false, .bool false, .bool false, .bool false, .bool false, .bool false, .bool false, .bool false, .bool false, .bool false, .bool false]) 64 64 := by unfold E.In; kernel_rfl
theorem in104 : E.In Try.prog 104 (.agg #[.int .i64 0, .int .i64 0, .slice none 0 0]) 3 40 := by unfold E.In; kernel_rfl
theorem in22 : E.In Try.prog 22 (.slice none 0 0) 1 24 := by unfold E.In; kernel_rfl
theorem in3 : E.In Try.prog 3 (.int .i64 0) 1 8 := by unfold E.In; kernel_rfl
theorem in4 : E.In Try.prog 4 (.bool false) 1 1 := by unfold E.In; kernel_rfl
theorem in48 : E.In Try.prog 48 (.agg #[.int .i64 0, .int .i64 0, .slice none 0 0]) 3 40 := by unfold E.In; kernel_rfl
theorem in5 : E.In Try.prog 5 (.int .u8 0) 1 1 := by unfold E.In; kernel_rfl
theorem in93 : E.In Try.prog 93 (.agg #[.int .i64 0, .int .i64 0]) 2 16 := by unfold E.In; kernel_rfl
theorem is102 : E.Is Try.prog 102 64 := ⟨fun _ => by kernel_rfl, fun _ => by kernel_rfl⟩
theorem is104 : E.Is Try.prog 104 3 := ⟨fun _ => by kernel_rfl, fun _ => by kernel_rfl⟩
theorem is48 : E.Is Try.prog 48 3 := ⟨fun _ => by kernel_rfl, fun _ => by kernel_rfl⟩
theorem is93 : E.Is Try.prog 93 2 := ⟨fun _ => by kernel_rfl, fun _ => by kernel_rfl⟩
theorem mixed : Try.prog.follows .mixedOrders = true := by kernel_rfl
theorem na22 : E.Na Try.prog 22 := fun _ => by kernel_rfl
theorem na3 : E.Na Try.prog 3 := fun _ => by kernel_rfl
theorem na4 : E.Na Try.prog 4 := fun _ => by kernel_rfl
theorem na5 : E.Na Try.prog 5 := fun _ => by kernel_rfl
theorem nm19 : E.Nm Try.prog 19 := ⟨Try.f19, Try.func19, rfl, by kernel_rfl⟩
theorem nm20 : E.Nm Try.prog 20 := ⟨Try.f20, Try.func20, rfl, by kernel_rfl⟩
theorem nm21 : E.Nm Try.prog 21 := ⟨Try.f21, Try.func21, rfl, by kernel_rfl⟩
theorem nm22 : E.Nm Try.prog 22 := ⟨Try.f22, Try.func22, rfl, by kernel_rfl⟩
theorem nm23 : E.Nm Try.prog 23 := ⟨Try.f23, Try.func23, rfl, by kernel_rfl⟩
theorem nm24 : E.Nm Try.prog 24 := ⟨Try.f24, Try.func24, rfl, by kernel_rfl⟩
theorem nm25 : E.Nm Try.prog 25 := ⟨Try.f25, Try.func25, rfl, by kernel_rfl⟩
theorem nm26 : E.Nm Try.prog 26 := ⟨Try.f26, Try.func26, rfl, by kernel_rfl⟩
theorem nm27 : E.Nm Try.prog 27 := ⟨Try.f27, Try.func27, rfl, by kernel_rfl⟩
theorem nm28 : E.Nm Try.prog 28 := ⟨Try.f28, Try.func28, rfl, by kernel_rfl⟩
theorem nm29 : E.Nm Try.prog 29 := ⟨Try.f29, Try.func29, rfl, by kernel_rfl⟩
theorem nm30 : E.Nm Try.prog 30 := ⟨Try.f30, Try.func30, rfl, by kernel_rfl⟩
theorem nm31 : E.Nm Try.prog 31 := ⟨Try.f31, Try.func31, rfl, by kernel_rfl⟩
theorem nm32 : E.Nm Try.prog 32 := ⟨Try.f32, Try.func32, rfl, by kernel_rfl⟩
theorem nm33 : E.Nm Try.prog 33 := ⟨Try.f33, Try.func33, rfl, by kernel_rfl⟩
theorem nm34 : E.Nm Try.prog 34 := ⟨Try.f34, Try.func34, rfl, by kernel_rfl⟩
theorem nm35 : E.Nm Try.prog 35 := ⟨Try.f35, Try.func35, rfl, by kernel_rfl⟩
theorem nm36 : E.Nm Try.prog 36 := ⟨Try.f36, Try.func36, rfl, by kernel_rfl⟩
theorem nm37 : E.Nm Try.prog 37 := ⟨Try.f37, Try.func37, rfl, by kernel_rfl⟩
theorem nm38 : E.Nm Try.prog 38 := ⟨Try.f38, Try.func38, rfl, by kernel_rfl⟩
theorem nm39 : E.Nm Try.prog 39 := ⟨Try.f39, Try.func39, rfl, by kernel_rfl⟩
theorem nm40 : E.Nm Try.prog 40 := ⟨Try.f40, Try.func40, rfl, by kernel_rfl⟩
theorem nm41 : E.Nm Try.prog 41 := ⟨Try.f41, Try.func41, rfl, by kernel_rfl⟩
theorem nm42 : E.Nm Try.prog 42 := ⟨Try.f42, Try.func42, rfl, by kernel_rfl⟩
theorem nm43 : E.Nm Try.prog 43 := ⟨Try.f43, Try.func43, rfl, by kernel_rfl⟩
theorem nm44 : E.Nm Try.prog 44 := ⟨Try.f44, Try.func44, rfl, by kernel_rfl⟩
theorem nm45 : E.Nm Try.prog 45 := ⟨Try.f45, Try.func45, rfl, by kernel_rfl⟩
theorem nm46 : E.Nm Try.prog 46 := ⟨Try.f46, Try.func46, rfl, by kernel_rfl⟩
theorem nm47 : E.Nm Try.prog 47 := ⟨Try.f47, Try.func47, rfl, by kernel_rfl⟩
theorem nm48 : E.Nm Try.prog 48 := ⟨Try.f48, Try.func48, rfl, by kernel_rfl⟩
theorem nm49 : E.Nm Try.prog 49 := ⟨Try.f49, Try.func49, rfl, by kernel_rfl⟩
theorem nm50 : E.Nm Try.prog 50 := ⟨Try.f50, Try.func50, rfl, by kernel_rfl⟩
theorem nm51 : E.Nm Try.prog 51 := ⟨Try.f51, Try.func51, rfl, by kernel_rfl⟩
theorem nm52 : E.Nm Try.prog 52 := ⟨Try.f52, Try.func52, rfl, by kernel_rfl⟩
theorem nm53 : E.Nm Try.prog 53 := ⟨Try.f53, Try.func53, rfl, by kernel_rfl⟩
theorem nm54 : E.Nm Try.prog 54 := ⟨Try.f54, Try.func54, rfl, by kernel_rfl⟩
theorem nm55 : E.Nm Try.prog 55 := ⟨Try.f55, Try.func55, rfl, by kernel_rfl⟩
theorem nm56 : E.Nm Try.prog 56 := ⟨Try.f56, Try.func56, rfl, by kernel_rfl⟩
theorem nm57 : E.Nm Try.prog 57 := ⟨Try.f57, Try.func57, rfl, by kernel_rfl⟩
theorem nm58 : E.Nm Try.prog 58 := ⟨Try.f58, Try.func58, rfl, by kernel_rfl⟩
theorem nm59 : E.Nm Try.prog 59 := ⟨Try.f59, Try.func59, rfl, by kernel_rfl⟩
theorem nm60 : E.Nm Try.prog 60 := ⟨Try.f60, Try.func60, rfl, by kernel_rfl⟩
theorem nm61 : E.Nm Try.prog 61 := ⟨Try.f61, Try.func61, rfl, by kernel_rfl⟩
theorem nm62 : E.Nm Try.prog 62 := ⟨Try.f62, Try.func62, rfl, by kernel_rfl⟩
theorem nm63 : E.Nm Try.prog 63 := ⟨Try.f63, Try.func63, rfl, by kernel_rfl⟩
theorem nm64 : E.Nm Try.prog 64 := ⟨Try.f64, Try.func64, rfl, by kernel_rfl⟩
theorem nm65 : E.Nm Try.prog 65 := ⟨Try.f65, Try.func65, rfl, by kernel_rfl⟩
theorem nm66 : E.Nm Try.prog 66 := ⟨Try.f66, Try.func66, rfl, by kernel_rfl⟩
theorem nm67 : E.Nm Try.prog 67 := ⟨Try.f67, Try.func67, rfl, by kernel_rfl⟩
theorem nm68 : E.Nm Try.prog 68 := ⟨Try.f68, Try.func68, rfl, by kernel_rfl⟩
theorem nm69 : E.Nm Try.prog 69 := ⟨Try.f69, Try.func69, rfl, by kernel_rfl⟩
theorem nm70 : E.Nm Try.prog 70 := ⟨Try.f70, Try.func70, rfl, by kernel_rfl⟩
theorem nm71 : E.Nm Try.prog 71 := ⟨Try.f71, Try.func71, rfl, by kernel_rfl⟩
theorem nm72 : E.Nm Try.prog 72 := ⟨Try.f72, Try.func72, rfl, by kernel_rfl⟩
theorem nm73 : E.Nm Try.prog 73 := ⟨Try.f73, Try.func73, rfl, by kernel_rfl⟩
theorem nm74 : E.Nm Try.prog 74 := ⟨Try.f74, Try.func74, rfl, by kernel_rfl⟩
theorem nm75 : E.Nm Try.prog 75 := ⟨Try.f75, Try.func75, rfl, by kernel_rfl⟩
theorem nm76 : E.Nm Try.prog 76 := ⟨Try.f76, Try.func76, rfl, by kernel_rfl⟩
theorem nm77 : E.Nm Try.prog 77 := ⟨Try.f77, Try.func77, rfl, by kernel_rfl⟩
theorem nm78 : E.Nm Try.prog 78 := ⟨Try.f78, Try.func78, rfl, by kernel_rfl⟩
theorem nm79 : E.Nm Try.prog 79 := ⟨Try.f79, Try.func79, rfl, by kernel_rfl⟩
theorem nm80 : E.Nm Try.prog 80 := ⟨Try.f80, Try.func80, rfl, by kernel_rfl⟩
theorem nm81 : E.Nm Try.prog 81 := ⟨Try.f81, Try.func81, rfl, by kernel_rfl⟩
theorem nm82 : E.Nm Try.prog 82 := ⟨Try.f82, Try.func82, rfl, by kernel_rfl⟩
theorem nm83 : E.Nm Try.prog 83 := ⟨Try.f83, Try.func83, rfl, by kernel_rfl⟩
theorem nm84 : E.Nm Try.prog 84 := ⟨Try.f84, Try.func84, rfl, by kernel_rfl⟩
theorem nm85 : E.Nm Try.prog 85 := ⟨Try.f85, Try.func85, rfl, by kernel_rfl⟩
theorem nm86 : E.Nm Try.prog 86 := ⟨Try.f86, Try.func86, rfl, by kernel_rfl⟩
theorem nm87 : E.Nm Try.prog 87 := ⟨Try.f87, Try.func87, rfl, by kernel_rfl⟩
theorem nm88 : E.Nm Try.prog 88 := ⟨Try.f88, Try.func88, rfl, by kernel_rfl⟩
end Go.Proofs.Ytbofflmmgokkhaa
