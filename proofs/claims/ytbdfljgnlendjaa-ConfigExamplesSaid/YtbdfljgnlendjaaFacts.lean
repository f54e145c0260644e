/- Closed facts on the program (printed by gen.py). -/
import Derived.Test.YtbdfljgnlendjaaProg
import Derived.Test.YtbdfljgnlendjaaLaws
import Derived.KernelRfl
namespace Go.Proofs.Ytbdfljgnlendjaa
open Go Go.RowKit
set_option linter.unusedSimpArgs false
set_option linter.unusedVariables false
theorem bld107_  (w : World) : (Instr.build 107 #[]).run Try.prog w = .ok (.agg #[.slice none 0 0]) w := by kernel_rfl
theorem bld114_0 (x0 : Option Addr) (m0 c0 : Nat) (w : World) : (Instr.build 114 #[(0, .slice x0 m0 c0)]).run Try.prog w = .ok (.agg #[.slice x0 m0 c0, .int .i64 0, .int .i64 0]) w := by kernel_rfl
theorem bld121_0 (x0 : Option Addr) (m0 c0 : Nat) (w : World) : (Instr.build 121 #[(0, .slice x0 m0 c0)]).run Try.prog w = .ok (.agg #[.slice x0 m0 c0, .bool false]) w := by kernel_rfl
theorem bld121_0_1 (x0 : Option Addr) (m0 c0 : Nat) (x1 : Bool) (w : World) : (Instr.build 121 #[(0, .slice x0 m0 c0), (1, .bool x1)]).run Try.prog w = .ok (.agg #[.slice x0 m0 c0, .bool x1]) w := by kernel_rfl
theorem bld121_1 (x0 : Bool) (w : World) : (Instr.build 121 #[(1, .bool x0)]).run Try.prog w = .ok (.agg #[.slice none 0 0, .bool x0]) w := by kernel_rfl
theorem bld132_0_1 (x0 : Int) (x1 : Int) (w : World) : (Instr.build 132 #[(0, .int .i64 x0), (1, .int .i64 x1)]).run Try.prog w = .ok (.agg #[.int .i64 x0, .int .i64 x1]) w := by kernel_rfl
theorem bld134_0_1 (x0 : Int) (x1 : Int) (x2 : Option Addr) (m2 c2 : Nat) (w : World) : (Instr.build 134 #[(0, .agg #[.int .i64 x0, .int .i64 x1]), (1, .slice x2 m2 c2)]).run Try.prog w = .ok (.agg #[.int .i64 x0, .int .i64 x1, .slice x2 m2 c2]) w := by kernel_rfl
theorem bld24_  (w : World) : (Instr.build 24 #[]).run Try.prog w = .ok (.agg #[.int .i64 0, .int .i64 0, .slice none 0 0]) w := by kernel_rfl
theorem bld24_0_1 (x0 : Int) (x1 : Int) (w : World) : (Instr.build 24 #[(0, .int .i64 x0), (1, .int .i64 x1)]).run Try.prog w = .ok (.agg #[.int .i64 x0, .int .i64 x1, .slice none 0 0]) w := by kernel_rfl
theorem bld24_0_1_2 (x0 : Int) (x1 : Int) (x2 : Option Addr) (m2 c2 : Nat) (w : World) : (Instr.build 24 #[(0, .int .i64 x0), (1, .int .i64 x1), (2, .slice x2 m2 c2)]).run Try.prog w = .ok (.agg #[.int .i64 x0, .int .i64 x1, .slice x2 m2 c2]) w := by kernel_rfl
theorem bld28_  (w : World) : (Instr.build 28 #[]).run Try.prog w = .ok (.agg #[.int .i64 0, .int .i64 0, .slice none 0 0, .slice none 0 0, .slice none 0 0, .int .u64 0]) w := by kernel_rfl
theorem bld28_0_1 (x0 : Int) (x1 : Int) (x2 : Option Addr) (m2 c2 : Nat) (x3 : Option Addr) (m3 c3 : Nat) (w : World) : (Instr.build 28 #[(0, .agg #[.int .i64 x0, .int .i64 x1, .slice x2 m2 c2]), (1, .slice x3 m3 c3)]).run Try.prog w = .ok (.agg #[.int .i64 x0, .int .i64 x1, .slice x2 m2 c2, .slice x3 m3 c3, .slice none 0 0, .int .u64 0]) w := by kernel_rfl
theorem bld28_0_2_3 (x0 : Int) (x1 : Int) (x2 : Option Addr) (m2 c2 : Nat) (x3 : Option Addr) (m3 c3 : Nat) (x4 : Int) (w : World) : (Instr.build 28 #[(0, .agg #[.int .i64 x0, .int .i64 x1, .slice x2 m2 c2]), (2, .slice x3 m3 c3), (3, .int .u64 x4)]).run Try.prog w = .ok (.agg #[.int .i64 x0, .int .i64 x1, .slice x2 m2 c2, .slice none 0 0, .slice x3 m3 c3, .int .u64 x4]) w := by kernel_rfl
theorem bld28_0_3 (x0 : Int) (x1 : Int) (x2 : Option Addr) (m2 c2 : Nat) (x3 : Int) (w : World) : (Instr.build 28 #[(0, .agg #[.int .i64 x0, .int .i64 x1, .slice x2 m2 c2]), (3, .int .u64 x3)]).run Try.prog w = .ok (.agg #[.int .i64 x0, .int .i64 x1, .slice x2 m2 c2, .slice none 0 0, .slice none 0 0, .int .u64 x3]) w := by kernel_rfl
theorem bld33_  (w : World) : (Instr.build 33 #[]).run Try.prog w = .ok (.agg #[.slice none 0 0, .slice none 0 0, .slice none 0 0, .int .i64 0, .int .i64 0, .int .i64 0, .int .i64 0, .int .i64 0]) w := by kernel_rfl
theorem bld33_0 (x0 : Option Addr) (m0 c0 : Nat) (w : World) : (Instr.build 33 #[(0, .slice x0 m0 c0)]).run Try.prog w = .ok (.agg #[.slice x0 m0 c0, .slice none 0 0, .slice none 0 0, .int .i64 0, .int .i64 0, .int .i64 0, .int .i64 0, .int .i64 0]) w := by kernel_rfl
theorem bld33_0_1_2_3_4_5_6_7 (x0 : Option Addr) (m0 c0 : Nat) (x1 : Option Addr) (m1 c1 : Nat) (x2 : Option Addr) (m2 c2 : Nat) (x3 : Int) (x4 : Int) (x5 : Int) (x6 : Int) (x7 : Int) (w : World) : (Instr.build 33 #[(0, .slice x0 m0 c0), (1, .slice x1 m1 c1), (2, .slice x2 m2 c2), (3, .int .i64 x3), (4, .int .i64 x4), (5, .int .i64 x5), (6, .int .i64 x6), (7, .int .i64 x7)]).run Try.prog w = .ok (.agg #[.slice x0 m0 c0, .slice x1 m1 c1, .slice x2 m2 c2, .int .i64 x3, .int .i64 x4, .int .i64 x5, .int .i64 x6, .int .i64 x7]) w := by kernel_rfl
theorem bld33_3 (x0 : Int) (w : World) : (Instr.build 33 #[(3, .int .i64 x0)]).run Try.prog w = .ok (.agg #[.slice none 0 0, .slice none 0 0, .slice none 0 0, .int .i64 x0, .int .i64 0, .int .i64 0, .int .i64 0, .int .i64 0]) w := by kernel_rfl
theorem bld91_0_1 (x0 : Int) (x1 : Int) (w : World) : (Instr.build 91 #[(0, .int .i64 x0), (1, .int .i64 x1)]).run Try.prog w = .ok (.agg #[.int .i64 x0, .int .i64 x1]) w := by kernel_rfl
theorem bsl141_8_0_1_2_3_4_5_6_7 (x0 : Int) (x1 : Int) (x2 : Int) (x3 : Int) (x4 : Int) (x5 : Int) (x6 : Int) (x7 : Int) (x8 : Int) (x9 : Int) (x10 : Int) (x11 : Int) (x12 : Int) (x13 : Int) (x14 : Int) (x15 : Int) (w : World) : (Instr.buildSlice 141 8 #[(0, .agg #[.int .i64 x0, .int .i64 x1]), (1, .agg #[.int .i64 x2, .int .i64 x3]), (2, .agg #[.int .i64 x4, .int .i64 x5]), (3, .agg #[.int .i64 x6, .int .i64 x7]), (4, .agg #[.int .i64 x8, .int .i64 x9]), (5, .agg #[.int .i64 x10, .int .i64 x11]), (6, .agg #[.int .i64 x12, .int .i64 x13]), (7, .agg #[.int .i64 x14, .int .i64 x15])]).run Try.prog w = .ok (.slice (some ⟨w.heap.size, 0, none⟩) 8 8) (w.alloc (.cells #[.int .i64 x0, .int .i64 x1, .int .i64 x2, .int .i64 x3, .int .i64 x4, .int .i64 x5, .int .i64 x6, .int .i64 x7, .int .i64 x8, .int .i64 x9, .int .i64 x10, .int .i64 x11, .int .i64 x12, .int .i64 x13, .int .i64 x14, .int .i64 x15] 91)) := by kernel_rfl
theorem bsl156_5_0_1_2_3_4 (x0 : Option Addr) (x1 : Option Addr) (x2 : Option Addr) (x3 : Option Addr) (x4 : Option Addr) (w : World) : (Instr.buildSlice 156 5 #[(0, .pointer x0), (1, .pointer x1), (2, .pointer x2), (3, .pointer x3), (4, .pointer x4)]).run Try.prog w = .ok (.slice (some ⟨w.heap.size, 0, none⟩) 5 5) (w.alloc (.cells #[.pointer x0, .pointer x1, .pointer x2, .pointer x3, .pointer x4] 155)) := by kernel_rfl
theorem bsl22_0_  (w : World) : (Instr.buildSlice 22 0 #[]).run Try.prog w = .ok (.slice (some ⟨w.heap.size, 0, none⟩) 0 0) (w.alloc (.cells #[] 5)) := by kernel_rfl
theorem bsl22_1_0 (x0 : Int) (w : World) : (Instr.buildSlice 22 1 #[(0, .int .u8 x0)]).run Try.prog w = .ok (.slice (some ⟨w.heap.size, 0, none⟩) 1 1) (w.alloc (.cells #[.int .u8 x0] 5)) := by kernel_rfl
theorem bsl22_2_0_1 (x0 : Int) (x1 : Int) (w : World) : (Instr.buildSlice 22 2 #[(0, .int .u8 x0), (1, .int .u8 x1)]).run Try.prog w = .ok (.slice (some ⟨w.heap.size, 0, none⟩) 2 2) (w.alloc (.cells #[.int .u8 x0, .int .u8 x1] 5)) := by kernel_rfl
theorem bsl22_30_0_1_2_3_4_5_6_7_8_9_10_11_12_13_14_15_16_17_18_19_20_21_22_23_24_25_26_27_28_29 (x0 : Int) (x1 : Int) (x2 : Int) (x3 : Int) (x4 : Int) (x5 : Int) (x6 : Int) (x7 : Int) (x8 : Int) (x9 : Int) (x10 : Int) (x11 : Int) (x12 : Int) (x13 : Int) (x14 : Int) (x15 : Int) (x16 : Int) (x17 : Int) (x18 : Int) (x19 : Int) (x20 : Int) (x21 : Int) (x22 : Int) (x23 : Int) (x24 : Int) (x25 : Int) (x26 : Int) (x27 : Int) (x28 : Int) (x29 : Int) (w : World) : (Instr.buildSlice 22 30 #[(0, .int .u8 x0), (1, .int .u8 x1), (2, .int .u8 x2), (3, .int .u8 x3), (4, .int .u8 x4), (5, .int .u8 x5), (6, .int .u8 x6), (7, .int .u8 x7), (8, .int .u8 x8), (9, .int .u8 x9), (10, .int .u8 x10), (11, .int .u8 x11), (12, .int .u8 x12), (13, .int .u8 x13), (14, .int .u8 x14), (15, .int .u8 x15), (16, .int .u8 x16), (17, .int .u8 x17), (18, .int .u8 x18), (19, .int .u8 x19), (20, .int .u8 x20), (21, .int .u8 x21), (22, .int .u8 x22), (23, .int .u8 x23), (24, .int .u8 x24), (25, .int .u8 x25), (26, .int .u8 x26), (27, .int .u8 x27), (28, .int .u8 x28), (29, .int .u8 x29)]).run Try.prog w = .ok (.slice (some ⟨w.heap.size, 0, none⟩) 30 30) (w.alloc (.cells #[.int .u8 x0, .int .u8 x1, .int .u8 x2, .int .u8 x3, .int .u8 x4, .int .u8 x5, .int .u8 x6, .int .u8 x7, .int .u8 x8, .int .u8 x9, .int .u8 x10, .int .u8 x11, .int .u8 x12, .int .u8 x13, .int .u8 x14, .int .u8 x15, .int .u8 x16, .int .u8 x17, .int .u8 x18, .int .u8 x19, .int .u8 x20, .int .u8 x21, .int .u8 x22, .int .u8 x23, .int .u8 x24, .int .u8 x25, .int .u8 x26, .int .u8 x27, .int .u8 x28, .int .u8 x29] 5)) := by kernel_rfl
theorem bsl22_5_0_1_2_3_4 (x0 : Int) (x1 : Int) (x2 : Int) (x3 : Int) (x4 : Int) (w : World) : (Instr.buildSlice 22 5 #[(0, .int .u8 x0), (1, .int .u8 x1), (2, .int .u8 x2), (3, .int .u8 x3), (4, .int .u8 x4)]).run Try.prog w = .ok (.slice (some ⟨w.heap.size, 0, none⟩) 5 5) (w.alloc (.cells #[.int .u8 x0, .int .u8 x1, .int .u8 x2, .int .u8 x3, .int .u8 x4] 5)) := by kernel_rfl
theorem bsl22_6_0_1_2_3_4_5 (x0 : Int) (x1 : Int) (x2 : Int) (x3 : Int) (x4 : Int) (x5 : Int) (w : World) : (Instr.buildSlice 22 6 #[(0, .int .u8 x0), (1, .int .u8 x1), (2, .int .u8 x2), (3, .int .u8 x3), (4, .int .u8 x4), (5, .int .u8 x5)]).run Try.prog w = .ok (.slice (some ⟨w.heap.size, 0, none⟩) 6 6) (w.alloc (.cells #[.int .u8 x0, .int .u8 x1, .int .u8 x2, .int .u8 x3, .int .u8 x4, .int .u8 x5] 5)) := by kernel_rfl
theorem bsl25_1_0 (x0 : Option Addr) (m0 c0 : Nat) (x1 : Option Addr) (m1 c1 : Nat) (x2 : Option Addr) (m2 c2 : Nat) (x3 : Int) (x4 : Int) (x5 : Int) (x6 : Int) (x7 : Int) (w : World) : (Instr.buildSlice 25 1 #[(0, .agg #[.slice x0 m0 c0, .slice x1 m1 c1, .slice x2 m2 c2, .int .i64 x3, .int .i64 x4, .int .i64 x5, .int .i64 x6, .int .i64 x7])]).run Try.prog w = .ok (.slice (some ⟨w.heap.size, 0, none⟩) 1 1) (w.alloc (.cells #[.slice x0 m0 c0, .slice x1 m1 c1, .slice x2 m2 c2, .int .i64 x3, .int .i64 x4, .int .i64 x5, .int .i64 x6, .int .i64 x7] 33)) := by kernel_rfl
theorem bsl31_0_  (w : World) : (Instr.buildSlice 31 0 #[]).run Try.prog w = .ok (.slice (some ⟨w.heap.size, 0, none⟩) 0 0) (w.alloc (.cells #[] 3)) := by kernel_rfl
theorem bsl31_1_0 (x0 : Int) (w : World) : (Instr.buildSlice 31 1 #[(0, .int .i64 x0)]).run Try.prog w = .ok (.slice (some ⟨w.heap.size, 0, none⟩) 1 1) (w.alloc (.cells #[.int .i64 x0] 3)) := by kernel_rfl
theorem bsl31_2_0_1 (x0 : Int) (x1 : Int) (w : World) : (Instr.buildSlice 31 2 #[(0, .int .i64 x0), (1, .int .i64 x1)]).run Try.prog w = .ok (.slice (some ⟨w.heap.size, 0, none⟩) 2 2) (w.alloc (.cells #[.int .i64 x0, .int .i64 x1] 3)) := by kernel_rfl
theorem bsl31_3_0_1_2 (x0 : Int) (x1 : Int) (x2 : Int) (w : World) : (Instr.buildSlice 31 3 #[(0, .int .i64 x0), (1, .int .i64 x1), (2, .int .i64 x2)]).run Try.prog w = .ok (.slice (some ⟨w.heap.size, 0, none⟩) 3 3) (w.alloc (.cells #[.int .i64 x0, .int .i64 x1, .int .i64 x2] 3)) := by kernel_rfl
theorem bsl31_5_0_1_2_3_4 (x0 : Int) (x1 : Int) (x2 : Int) (x3 : Int) (x4 : Int) (w : World) : (Instr.buildSlice 31 5 #[(0, .int .i64 x0), (1, .int .i64 x1), (2, .int .i64 x2), (3, .int .i64 x3), (4, .int .i64 x4)]).run Try.prog w = .ok (.slice (some ⟨w.heap.size, 0, none⟩) 5 5) (w.alloc (.cells #[.int .i64 x0, .int .i64 x1, .int .i64 x2, .int .i64 x3, .int .i64 x4] 3)) := by kernel_rfl
theorem bsl70_3_0_1_2 (x0 : Option Addr) (m0 c0 : Nat) (x1 : Option Addr) (m1 c1 : Nat) (x2 : Option Addr) (m2 c2 : Nat) (w : World) : (Instr.buildSlice 70 3 #[(0, .slice x0 m0 c0), (1, .slice x1 m1 c1), (2, .slice x2 m2 c2)]).run Try.prog w = .ok (.slice (some ⟨w.heap.size, 0, none⟩) 3 3) (w.alloc (.cells #[.slice x0 m0 c0, .slice x1 m1 c1, .slice x2 m2 c2] 31)) := by kernel_rfl
theorem fa107_0 : E.FA Try.prog 107 0 0 := fun _ _ _ => by kernel_rfl
theorem fa114_0 : E.FA Try.prog 114 0 0 := fun _ _ _ => by kernel_rfl
theorem fa114_1 : E.FA Try.prog 114 1 1 := fun _ _ _ => by kernel_rfl
theorem fa114_2 : E.FA Try.prog 114 2 2 := fun _ _ _ => by kernel_rfl
theorem fa121_0 : E.FA Try.prog 121 0 0 := fun _ _ _ => by kernel_rfl
theorem fa121_1 : E.FA Try.prog 121 1 1 := fun _ _ _ => by kernel_rfl
theorem fa132_0 : E.FA Try.prog 132 0 0 := fun _ _ _ => by kernel_rfl
theorem fa132_1 : E.FA Try.prog 132 1 1 := fun _ _ _ => by kernel_rfl
theorem fa134_0 : E.FA Try.prog 134 0 0 := fun _ _ _ => by kernel_rfl
theorem fa134_1 : E.FA Try.prog 134 1 2 := fun _ _ _ => by kernel_rfl
theorem fa24_0 : E.FA Try.prog 24 0 0 := fun _ _ _ => by kernel_rfl
theorem fa24_1 : E.FA Try.prog 24 1 1 := fun _ _ _ => by kernel_rfl
theorem fa24_2 : E.FA Try.prog 24 2 2 := fun _ _ _ => by kernel_rfl
theorem fa28_0 : E.FA Try.prog 28 0 0 := fun _ _ _ => by kernel_rfl
theorem fa28_1 : E.FA Try.prog 28 1 3 := fun _ _ _ => by kernel_rfl
theorem fa28_2 : E.FA Try.prog 28 2 4 := fun _ _ _ => by kernel_rfl
theorem fa28_3 : E.FA Try.prog 28 3 5 := fun _ _ _ => by kernel_rfl
theorem fa33_0 : E.FA Try.prog 33 0 0 := fun _ _ _ => by kernel_rfl
theorem fa33_1 : E.FA Try.prog 33 1 1 := fun _ _ _ => by kernel_rfl
theorem fa33_2 : E.FA Try.prog 33 2 2 := fun _ _ _ => by kernel_rfl
theorem fa33_3 : E.FA Try.prog 33 3 3 := fun _ _ _ => by kernel_rfl
theorem fa33_4 : E.FA Try.prog 33 4 4 := fun _ _ _ => by kernel_rfl
theorem fa33_5 : E.FA Try.prog 33 5 5 := fun _ _ _ => by kernel_rfl
theorem fa33_6 : E.FA Try.prog 33 6 6 := fun _ _ _ => by kernel_rfl
theorem fa33_7 : E.FA Try.prog 33 7 7 := fun _ _ _ => by kernel_rfl
theorem fa91_0 : E.FA Try.prog 91 0 0 := fun _ _ _ => by kernel_rfl
theorem fa91_1 : E.FA Try.prog 91 1 1 := fun _ _ _ => by kernel_rfl
theorem in121 : E.In Try.prog 121 (.agg #[.slice none 0 0, .bool false]) 2 32 := by unfold E.In; kernel_rfl
theorem in134 : E.In Try.prog 134 (.agg #[.int .i64 0, .int .i64 0, .slice none 0 0]) 3 40 := by unfold E.In; kernel_rfl
theorem in155 : E.In Try.prog 155 (.pointer none) 1 8 := by unfold E.In; kernel_rfl
theorem in22 : E.In Try.prog 22 (.slice none 0 0) 1 24 := by unfold E.In; kernel_rfl
theorem in24 : E.In Try.prog 24 (.agg #[.int .i64 0, .int .i64 0, .slice none 0 0]) 3 40 := by unfold E.In; kernel_rfl
theorem in25 : E.In Try.prog 25 (.slice none 0 0) 1 24 := by unfold E.In; kernel_rfl
theorem in26 : E.In Try.prog 26 (.int .u64 0) 1 8 := by unfold E.In; kernel_rfl
theorem in28 : E.In Try.prog 28 (.agg #[.int .i64 0, .int .i64 0, .slice none 0 0, .slice none 0 0, .slice none 0 0, .int .u64 0]) 6 96 := by unfold E.In; kernel_rfl
theorem in3 : E.In Try.prog 3 (.int .i64 0) 1 8 := by unfold E.In; kernel_rfl
theorem in31 : E.In Try.prog 31 (.slice none 0 0) 1 24 := by unfold E.In; kernel_rfl
theorem in33 : E.In Try.prog 33 (.agg #[.slice none 0 0, .slice none 0 0, .slice none 0 0, .int .i64 0, .int .i64 0, .int .i64 0, .int .i64 0, .int .i64 0]) 8 112 := by unfold E.In; kernel_rfl
theorem in38 : E.In Try.prog 38 (.int .i64 0) 1 8 := by unfold E.In; kernel_rfl
theorem in5 : E.In Try.prog 5 (.int .u8 0) 1 1 := by unfold E.In; kernel_rfl
theorem in91 : E.In Try.prog 91 (.agg #[.int .i64 0, .int .i64 0]) 2 16 := by unfold E.In; kernel_rfl
theorem is121 : E.Is Try.prog 121 2 := ⟨fun _ => by kernel_rfl, fun _ => by kernel_rfl⟩
theorem is132 : E.Is Try.prog 132 2 := ⟨fun _ => by kernel_rfl, fun _ => by kernel_rfl⟩
theorem is134 : E.Is Try.prog 134 3 := ⟨fun _ => by kernel_rfl, fun _ => by kernel_rfl⟩
theorem is24 : E.Is Try.prog 24 3 := ⟨fun _ => by kernel_rfl, fun _ => by kernel_rfl⟩
theorem is28 : E.Is Try.prog 28 6 := ⟨fun _ => by kernel_rfl, fun _ => by kernel_rfl⟩
theorem is33 : E.Is Try.prog 33 8 := ⟨fun _ => by kernel_rfl, fun _ => by kernel_rfl⟩
theorem is91 : E.Is Try.prog 91 2 := ⟨fun _ => by kernel_rfl, fun _ => by kernel_rfl⟩
theorem mixed : Try.prog.follows .mixedOrders = true := by kernel_rfl
theorem na155 : E.Na Try.prog 155 := fun _ => by kernel_rfl
theorem na22 : E.Na Try.prog 22 := fun _ => by kernel_rfl
theorem na25 : E.Na Try.prog 25 := fun _ => by kernel_rfl
theorem na26 : E.Na Try.prog 26 := fun _ => by kernel_rfl
theorem na3 : E.Na Try.prog 3 := fun _ => by kernel_rfl
theorem na31 : E.Na Try.prog 31 := fun _ => by kernel_rfl
theorem na38 : E.Na Try.prog 38 := fun _ => by kernel_rfl
theorem na4 : E.Na Try.prog 4 := fun _ => by kernel_rfl
theorem na5 : E.Na Try.prog 5 := fun _ => by kernel_rfl
theorem nm100 : E.Nm Try.prog 100 := ⟨Try.f100, Try.func100, rfl, by kernel_rfl⟩
theorem nm101 : E.Nm Try.prog 101 := ⟨Try.f101, Try.func101, rfl, by kernel_rfl⟩
theorem nm102 : E.Nm Try.prog 102 := ⟨Try.f102, Try.func102, rfl, by kernel_rfl⟩
theorem nm103 : E.Nm Try.prog 103 := ⟨Try.f103, Try.func103, rfl, by kernel_rfl⟩
theorem nm104 : E.Nm Try.prog 104 := ⟨Try.f104, Try.func104, rfl, by kernel_rfl⟩
theorem nm105 : E.Nm Try.prog 105 := ⟨Try.f105, Try.func105, rfl, by kernel_rfl⟩
theorem nm106 : E.Nm Try.prog 106 := ⟨Try.f106, Try.func106, rfl, by kernel_rfl⟩
theorem nm107 : E.Nm Try.prog 107 := ⟨Try.f107, Try.func107, rfl, by kernel_rfl⟩
theorem nm108 : E.Nm Try.prog 108 := ⟨Try.f108, Try.func108, rfl, by kernel_rfl⟩
theorem nm109 : E.Nm Try.prog 109 := ⟨Try.f109, Try.func109, rfl, by kernel_rfl⟩
theorem nm110 : E.Nm Try.prog 110 := ⟨Try.f110, Try.func110, rfl, by kernel_rfl⟩
theorem nm111 : E.Nm Try.prog 111 := ⟨Try.f111, Try.func111, rfl, by kernel_rfl⟩
theorem nm112 : E.Nm Try.prog 112 := ⟨Try.f112, Try.func112, rfl, by kernel_rfl⟩
theorem nm113 : E.Nm Try.prog 113 := ⟨Try.f113, Try.func113, rfl, by kernel_rfl⟩
theorem nm114 : E.Nm Try.prog 114 := ⟨Try.f114, Try.func114, rfl, by kernel_rfl⟩
theorem nm115 : E.Nm Try.prog 115 := ⟨Try.f115, Try.func115, rfl, by kernel_rfl⟩
theorem nm116 : E.Nm Try.prog 116 := ⟨Try.f116, Try.func116, rfl, by kernel_rfl⟩
theorem nm117 : E.Nm Try.prog 117 := ⟨Try.f117, Try.func117, rfl, by kernel_rfl⟩
theorem nm118 : E.Nm Try.prog 118 := ⟨Try.f118, Try.func118, rfl, by kernel_rfl⟩
theorem nm119 : E.Nm Try.prog 119 := ⟨Try.f119, Try.func119, rfl, by kernel_rfl⟩
theorem nm120 : E.Nm Try.prog 120 := ⟨Try.f120, Try.func120, rfl, by kernel_rfl⟩
theorem nm121 : E.Nm Try.prog 121 := ⟨Try.f121, Try.func121, rfl, by kernel_rfl⟩
theorem nm122 : E.Nm Try.prog 122 := ⟨Try.f122, Try.func122, rfl, by kernel_rfl⟩
theorem nm19 : E.Nm Try.prog 19 := ⟨Try.f19, Try.func19, rfl, by kernel_rfl⟩
theorem nm20 : E.Nm Try.prog 20 := ⟨Try.f20, Try.func20, rfl, by kernel_rfl⟩
theorem nm21 : E.Nm Try.prog 21 := ⟨Try.f21, Try.func21, rfl, by kernel_rfl⟩
theorem nm22 : E.Nm Try.prog 22 := ⟨Try.f22, Try.func22, rfl, by kernel_rfl⟩
theorem nm23 : E.Nm Try.prog 23 := ⟨Try.f23, Try.func23, rfl, by kernel_rfl⟩
theorem nm24 : E.Nm Try.prog 24 := ⟨Try.f24, Try.func24, rfl, by kernel_rfl⟩
theorem nm25 : E.Nm Try.prog 25 := ⟨Try.f25, Try.func25, rfl, by kernel_rfl⟩
theorem nm26 : E.Nm Try.prog 26 := ⟨Try.f26, Try.func26, rfl, by kernel_rfl⟩
theorem nm27 : E.Nm Try.prog 27 := ⟨Try.f27, Try.func27, rfl, by kernel_rfl⟩
theorem nm28 : E.Nm Try.prog 28 := ⟨Try.f28, Try.func28, rfl, by kernel_rfl⟩
theorem nm29 : E.Nm Try.prog 29 := ⟨Try.f29, Try.func29, rfl, by kernel_rfl⟩
theorem nm30 : E.Nm Try.prog 30 := ⟨Try.f30, Try.func30, rfl, by kernel_rfl⟩
theorem nm31 : E.Nm Try.prog 31 := ⟨Try.f31, Try.func31, rfl, by kernel_rfl⟩
theorem nm32 : E.Nm Try.prog 32 := ⟨Try.f32, Try.func32, rfl, by kernel_rfl⟩
theorem nm33 : E.Nm Try.prog 33 := ⟨Try.f33, Try.func33, rfl, by kernel_rfl⟩
theorem nm34 : E.Nm Try.prog 34 := ⟨Try.f34, Try.func34, rfl, by kernel_rfl⟩
theorem nm35 : E.Nm Try.prog 35 := ⟨Try.f35, Try.func35, rfl, by kernel_rfl⟩
theorem nm36 : E.Nm Try.prog 36 := ⟨Try.f36, Try.func36, rfl, by kernel_rfl⟩
theorem nm37 : E.Nm Try.prog 37 := ⟨Try.f37, Try.func37, rfl, by kernel_rfl⟩
theorem nm38 : E.Nm Try.prog 38 := ⟨Try.f38, Try.func38, rfl, by kernel_rfl⟩
theorem nm39 : E.Nm Try.prog 39 := ⟨Try.f39, Try.func39, rfl, by kernel_rfl⟩
theorem nm40 : E.Nm Try.prog 40 := ⟨Try.f40, Try.func40, rfl, by kernel_rfl⟩
theorem nm41 : E.Nm Try.prog 41 := ⟨Try.f41, Try.func41, rfl, by kernel_rfl⟩
theorem nm42 : E.Nm Try.prog 42 := ⟨Try.f42, Try.func42, rfl, by kernel_rfl⟩
theorem nm43 : E.Nm Try.prog 43 := ⟨Try.f43, Try.func43, rfl, by kernel_rfl⟩
theorem nm44 : E.Nm Try.prog 44 := ⟨Try.f44, Try.func44, rfl, by kernel_rfl⟩
theorem nm45 : E.Nm Try.prog 45 := ⟨Try.f45, Try.func45, rfl, by kernel_rfl⟩
theorem nm46 : E.Nm Try.prog 46 := ⟨Try.f46, Try.func46, rfl, by kernel_rfl⟩
theorem nm47 : E.Nm Try.prog 47 := ⟨Try.f47, Try.func47, rfl, by kernel_rfl⟩
theorem nm48 : E.Nm Try.prog 48 := ⟨Try.f48, Try.func48, rfl, by kernel_rfl⟩
theorem nm49 : E.Nm Try.prog 49 := ⟨Try.f49, Try.func49, rfl, by kernel_rfl⟩
theorem nm50 : E.Nm Try.prog 50 := ⟨Try.f50, Try.func50, rfl, by kernel_rfl⟩
theorem nm51 : E.Nm Try.prog 51 := ⟨Try.f51, Try.func51, rfl, by kernel_rfl⟩
theorem nm52 : E.Nm Try.prog 52 := ⟨Try.f52, Try.func52, rfl, by kernel_rfl⟩
theorem nm53 : E.Nm Try.prog 53 := ⟨Try.f53, Try.func53, rfl, by kernel_rfl⟩
theorem nm54 : E.Nm Try.prog 54 := ⟨Try.f54, Try.func54, rfl, by kernel_rfl⟩
theorem nm55 : E.Nm Try.prog 55 := ⟨Try.f55, Try.func55, rfl, by kernel_rfl⟩
theorem nm56 : E.Nm Try.prog 56 := ⟨Try.f56, Try.func56, rfl, by kernel_rfl⟩
theorem nm57 : E.Nm Try.prog 57 := ⟨Try.f57, Try.func57, rfl, by kernel_rfl⟩
theorem nm58 : E.Nm Try.prog 58 := ⟨Try.f58, Try.func58, rfl, by kernel_rfl⟩
theorem nm59 : E.Nm Try.prog 59 := ⟨Try.f59, Try.func59, rfl, by kernel_rfl⟩
theorem nm60 : E.Nm Try.prog 60 := ⟨Try.f60, Try.func60, rfl, by kernel_rfl⟩
theorem nm61 : E.Nm Try.prog 61 := ⟨Try.f61, Try.func61, rfl, by kernel_rfl⟩
theorem nm62 : E.Nm Try.prog 62 := ⟨Try.f62, Try.func62, rfl, by kernel_rfl⟩
theorem nm63 : E.Nm Try.prog 63 := ⟨Try.f63, Try.func63, rfl, by kernel_rfl⟩
theorem nm64 : E.Nm Try.prog 64 := ⟨Try.f64, Try.func64, rfl, by kernel_rfl⟩
theorem nm65 : E.Nm Try.prog 65 := ⟨Try.f65, Try.func65, rfl, by kernel_rfl⟩
theorem nm66 : E.Nm Try.prog 66 := ⟨Try.f66, Try.func66, rfl, by kernel_rfl⟩
theorem nm67 : E.Nm Try.prog 67 := ⟨Try.f67, Try.func67, rfl, by kernel_rfl⟩
theorem nm68 : E.Nm Try.prog 68 := ⟨Try.f68, Try.func68, rfl, by kernel_rfl⟩
theorem nm69 : E.Nm Try.prog 69 := ⟨Try.f69, Try.func69, rfl, by kernel_rfl⟩
theorem nm70 : E.Nm Try.prog 70 := ⟨Try.f70, Try.func70, rfl, by kernel_rfl⟩
theorem nm71 : E.Nm Try.prog 71 := ⟨Try.f71, Try.func71, rfl, by kernel_rfl⟩
theorem nm72 : E.Nm Try.prog 72 := ⟨Try.f72, Try.func72, rfl, by kernel_rfl⟩
theorem nm73 : E.Nm Try.prog 73 := ⟨Try.f73, Try.func73, rfl, by kernel_rfl⟩
theorem nm74 : E.Nm Try.prog 74 := ⟨Try.f74, Try.func74, rfl, by kernel_rfl⟩
theorem nm75 : E.Nm Try.prog 75 := ⟨Try.f75, Try.func75, rfl, by kernel_rfl⟩
theorem nm76 : E.Nm Try.prog 76 := ⟨Try.f76, Try.func76, rfl, by kernel_rfl⟩
theorem nm77 : E.Nm Try.prog 77 := ⟨Try.f77, Try.func77, rfl, by kernel_rfl⟩
theorem nm78 : E.Nm Try.prog 78 := ⟨Try.f78, Try.func78, rfl, by kernel_rfl⟩
theorem nm79 : E.Nm Try.prog 79 := ⟨Try.f79, Try.func79, rfl, by kernel_rfl⟩
theorem nm80 : E.Nm Try.prog 80 := ⟨Try.f80, Try.func80, rfl, by kernel_rfl⟩
theorem nm81 : E.Nm Try.prog 81 := ⟨Try.f81, Try.func81, rfl, by kernel_rfl⟩
theorem nm82 : E.Nm Try.prog 82 := ⟨Try.f82, Try.func82, rfl, by kernel_rfl⟩
theorem nm83 : E.Nm Try.prog 83 := ⟨Try.f83, Try.func83, rfl, by kernel_rfl⟩
theorem nm84 : E.Nm Try.prog 84 := ⟨Try.f84, Try.func84, rfl, by kernel_rfl⟩
theorem nm85 : E.Nm Try.prog 85 := ⟨Try.f85, Try.func85, rfl, by kernel_rfl⟩
theorem nm86 : E.Nm Try.prog 86 := ⟨Try.f86, Try.func86, rfl, by kernel_rfl⟩
theorem nm87 : E.Nm Try.prog 87 := ⟨Try.f87, Try.func87, rfl, by kernel_rfl⟩
theorem nm88 : E.Nm Try.prog 88 := ⟨Try.f88, Try.func88, rfl, by kernel_rfl⟩
theorem nm89 : E.Nm Try.prog 89 := ⟨Try.f89, Try.func89, rfl, by kernel_rfl⟩
theorem nm90 : E.Nm Try.prog 90 := ⟨Try.f90, Try.func90, rfl, by kernel_rfl⟩
theorem nm91 : E.Nm Try.prog 91 := ⟨Try.f91, Try.func91, rfl, by kernel_rfl⟩
theorem nm92 : E.Nm Try.prog 92 := ⟨Try.f92, Try.func92, rfl, by kernel_rfl⟩
theorem nm93 : E.Nm Try.prog 93 := ⟨Try.f93, Try.func93, rfl, by kernel_rfl⟩
theorem nm94 : E.Nm Try.prog 94 := ⟨Try.f94, Try.func94, rfl, by kernel_rfl⟩
theorem nm95 : E.Nm Try.prog 95 := ⟨Try.f95, Try.func95, rfl, by kernel_rfl⟩
theorem nm96 : E.Nm Try.prog 96 := ⟨Try.f96, Try.func96, rfl, by kernel_rfl⟩
theorem nm97 : E.Nm Try.prog 97 := ⟨Try.f97, Try.func97, rfl, by kernel_rfl⟩
theorem nm98 : E.Nm Try.prog 98 := ⟨Try.f98, Try.func98, rfl, by kernel_rfl⟩
theorem nm99 : E.Nm Try.prog 99 := ⟨Try.f99, Try.func99, rfl, by kernel_rfl⟩
end Go.Proofs.Ytbdfljgnlendjaa
