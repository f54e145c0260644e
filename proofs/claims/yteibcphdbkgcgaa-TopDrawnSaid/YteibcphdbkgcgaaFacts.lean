/- Closed facts on the program (printed by gen.py). -/
import Derived.Test.YteibcphdbkgcgaaProg
import Derived.Test.YteibcphdbkgcgaaLaws
import Derived.KernelRfl
namespace Go.Proofs.Yteibcphdbkgcgaa
open Go Go.RowKit
set_option linter.unusedSimpArgs false
set_option linter.unusedVariables false
theorem bld24_  (w : World) : (Instr.build 24 #[]).run Try.prog w = .ok (.agg #[.int .i64 0, .int .i64 0, .slice none 0 0]) w := by kernel_rfl
theorem bld24_0_1 (x0 : Int) (x1 : Int) (w : World) : (Instr.build 24 #[(0, .int .i64 x0), (1, .int .i64 x1)]).run Try.prog w = .ok (.agg #[.int .i64 x0, .int .i64 x1, .slice none 0 0]) w := by kernel_rfl
theorem bld28_  (w : World) : (Instr.build 28 #[]).run Try.prog w = .ok (.agg #[.int .i64 0, .int .i64 0, .slice none 0 0, .slice none 0 0, .slice none 0 0, .int .u64 0]) w := by kernel_rfl
theorem bld28_0_1 (x0 : Int) (x1 : Int) (x2 : Option Addr) (m2 c2 : Nat) (x3 : Option Addr) (m3 c3 : Nat) (w : World) : (Instr.build 28 #[(0, .agg #[.int .i64 x0, .int .i64 x1, .slice x2 m2 c2]), (1, .slice x3 m3 c3)]).run Try.prog w = .ok (.agg #[.int .i64 x0, .int .i64 x1, .slice x2 m2 c2, .slice x3 m3 c3, .slice none 0 0, .int .u64 0]) w := by kernel_rfl
theorem bld28_0_2_3 (x0 : Int) (x1 : Int) (x2 : Option Addr) (m2 c2 : Nat) (x3 : Option Addr) (m3 c3 : Nat) (x4 : Int) (w : World) : (Instr.build 28 #[(0, .agg #[.int .i64 x0, .int .i64 x1, .slice x2 m2 c2]), (2, .slice x3 m3 c3), (3, .int .u64 x4)]).run Try.prog w = .ok (.agg #[.int .i64 x0, .int .i64 x1, .slice x2 m2 c2, .slice none 0 0, .slice x3 m3 c3, .int .u64 x4]) w := by kernel_rfl
theorem bld52_  (w : World) : (Instr.build 52 #[]).run Try.prog w = .ok (.agg #[.slice none 0 0, .slice none 0 0, .slice none 0 0, .int .i64 0, .int .i64 0, .int .i64 0, .int .i64 0, .int .i64 0]) w := by kernel_rfl
theorem bld52_0 (x0 : Option Addr) (m0 c0 : Nat) (w : World) : (Instr.build 52 #[(0, .slice x0 m0 c0)]).run Try.prog w = .ok (.agg #[.slice x0 m0 c0, .slice none 0 0, .slice none 0 0, .int .i64 0, .int .i64 0, .int .i64 0, .int .i64 0, .int .i64 0]) w := by kernel_rfl
theorem bld52_0_1_2_3_4_5_6_7 (x0 : Option Addr) (m0 c0 : Nat) (x1 : Option Addr) (m1 c1 : Nat) (x2 : Option Addr) (m2 c2 : Nat) (x3 : Int) (x4 : Int) (x5 : Int) (x6 : Int) (x7 : Int) (w : World) : (Instr.build 52 #[(0, .slice x0 m0 c0), (1, .slice x1 m1 c1), (2, .slice x2 m2 c2), (3, .int .i64 x3), (4, .int .i64 x4), (5, .int .i64 x5), (6, .int .i64 x6), (7, .int .i64 x7)]).run Try.prog w = .ok (.agg #[.slice x0 m0 c0, .slice x1 m1 c1, .slice x2 m2 c2, .int .i64 x3, .int .i64 x4, .int .i64 x5, .int .i64 x6, .int .i64 x7]) w := by kernel_rfl
theorem bld61_0_1 (x0 : Int) (x1 : Int) (w : World) : (Instr.build 61 #[(0, .int .i64 x0), (1, .int .i64 x1)]).run Try.prog w = .ok (.agg #[.int .i64 x0, .int .i64 x1]) w := by kernel_rfl
theorem bld63_0_1 (x0 : Int) (x1 : Int) (x2 : Option Addr) (m2 c2 : Nat) (w : World) : (Instr.build 63 #[(0, .agg #[.int .i64 x0, .int .i64 x1]), (1, .slice x2 m2 c2)]).run Try.prog w = .ok (.agg #[.int .i64 x0, .int .i64 x1, .slice x2 m2 c2]) w := by kernel_rfl
theorem bld69_  (w : World) : (Instr.build 69 #[]).run Try.prog w = .ok (.agg #[.slice none 0 0]) w := by kernel_rfl
theorem bld77_0 (x0 : Option Addr) (m0 c0 : Nat) (w : World) : (Instr.build 77 #[(0, .slice x0 m0 c0)]).run Try.prog w = .ok (.agg #[.slice x0 m0 c0, .int .i64 0, .int .i64 0]) w := by kernel_rfl
theorem bld92_0_1 (x0 : Int) (x1 : Int) (w : World) : (Instr.build 92 #[(0, .int .i64 x0), (1, .int .i64 x1)]).run Try.prog w = .ok (.agg #[.int .i64 x0, .int .i64 x1]) w := by kernel_rfl
theorem bsl105_5_0_1_2_3_4 (x0 : Option Addr) (x1 : Option Addr) (x2 : Option Addr) (x3 : Option Addr) (x4 : Option Addr) (w : World) : (Instr.buildSlice 105 5 #[(0, .pointer x0), (1, .pointer x1), (2, .pointer x2), (3, .pointer x3), (4, .pointer x4)]).run Try.prog w = .ok (.slice (some ⟨w.heap.size, 0, none⟩) 5 5) (w.alloc (.cells #[.pointer x0, .pointer x1, .pointer x2, .pointer x3, .pointer x4] 104)) := by kernel_rfl
theorem bsl112_8_0_1_2_3_4_5_6_7 (x0 : Int) (x1 : Int) (x2 : Int) (x3 : Int) (x4 : Int) (x5 : Int) (x6 : Int) (x7 : Int) (x8 : Int) (x9 : Int) (x10 : Int) (x11 : Int) (x12 : Int) (x13 : Int) (x14 : Int) (x15 : Int) (w : World) : (Instr.buildSlice 112 8 #[(0, .agg #[.int .i64 x0, .int .i64 x1]), (1, .agg #[.int .i64 x2, .int .i64 x3]), (2, .agg #[.int .i64 x4, .int .i64 x5]), (3, .agg #[.int .i64 x6, .int .i64 x7]), (4, .agg #[.int .i64 x8, .int .i64 x9]), (5, .agg #[.int .i64 x10, .int .i64 x11]), (6, .agg #[.int .i64 x12, .int .i64 x13]), (7, .agg #[.int .i64 x14, .int .i64 x15])]).run Try.prog w = .ok (.slice (some ⟨w.heap.size, 0, none⟩) 8 8) (w.alloc (.cells #[.int .i64 x0, .int .i64 x1, .int .i64 x2, .int .i64 x3, .int .i64 x4, .int .i64 x5, .int .i64 x6, .int .i64 x7, .int .i64 x8, .int .i64 x9, .int .i64 x10, .int .i64 x11, .int .i64 x12, .int .i64 x13, .int .i64 x14, .int .i64 x15] 92)) := by kernel_rfl
theorem bsl118_3_0_1_2 (x0 : Option Addr) (m0 c0 : Nat) (x1 : Option Addr) (m1 c1 : Nat) (x2 : Option Addr) (m2 c2 : Nat) (w : World) : (Instr.buildSlice 118 3 #[(0, .slice x0 m0 c0), (1, .slice x1 m1 c1), (2, .slice x2 m2 c2)]).run Try.prog w = .ok (.slice (some ⟨w.heap.size, 0, none⟩) 3 3) (w.alloc (.cells #[.slice x0 m0 c0, .slice x1 m1 c1, .slice x2 m2 c2] 50)) := by kernel_rfl
theorem bsl22_0_  (w : World) : (Instr.buildSlice 22 0 #[]).run Try.prog w = .ok (.slice (some ⟨w.heap.size, 0, none⟩) 0 0) (w.alloc (.cells #[] 5)) := by kernel_rfl
theorem bsl22_1_0 (x0 : Int) (w : World) : (Instr.buildSlice 22 1 #[(0, .int .u8 x0)]).run Try.prog w = .ok (.slice (some ⟨w.heap.size, 0, none⟩) 1 1) (w.alloc (.cells #[.int .u8 x0] 5)) := by kernel_rfl
theorem bsl22_2_0_1 (x0 : Int) (x1 : Int) (w : World) : (Instr.buildSlice 22 2 #[(0, .int .u8 x0), (1, .int .u8 x1)]).run Try.prog w = .ok (.slice (some ⟨w.heap.size, 0, none⟩) 2 2) (w.alloc (.cells #[.int .u8 x0, .int .u8 x1] 5)) := by kernel_rfl
theorem bsl22_5_0_1_2_3_4 (x0 : Int) (x1 : Int) (x2 : Int) (x3 : Int) (x4 : Int) (w : World) : (Instr.buildSlice 22 5 #[(0, .int .u8 x0), (1, .int .u8 x1), (2, .int .u8 x2), (3, .int .u8 x3), (4, .int .u8 x4)]).run Try.prog w = .ok (.slice (some ⟨w.heap.size, 0, none⟩) 5 5) (w.alloc (.cells #[.int .u8 x0, .int .u8 x1, .int .u8 x2, .int .u8 x3, .int .u8 x4] 5)) := by kernel_rfl
theorem bsl22_6_0_1_2_3_4_5 (x0 : Int) (x1 : Int) (x2 : Int) (x3 : Int) (x4 : Int) (x5 : Int) (w : World) : (Instr.buildSlice 22 6 #[(0, .int .u8 x0), (1, .int .u8 x1), (2, .int .u8 x2), (3, .int .u8 x3), (4, .int .u8 x4), (5, .int .u8 x5)]).run Try.prog w = .ok (.slice (some ⟨w.heap.size, 0, none⟩) 6 6) (w.alloc (.cells #[.int .u8 x0, .int .u8 x1, .int .u8 x2, .int .u8 x3, .int .u8 x4, .int .u8 x5] 5)) := by kernel_rfl
theorem bsl25_1_0 (x0 : Option Addr) (m0 c0 : Nat) (x1 : Option Addr) (m1 c1 : Nat) (x2 : Option Addr) (m2 c2 : Nat) (x3 : Int) (x4 : Int) (x5 : Int) (x6 : Int) (x7 : Int) (w : World) : (Instr.buildSlice 25 1 #[(0, .agg #[.slice x0 m0 c0, .slice x1 m1 c1, .slice x2 m2 c2, .int .i64 x3, .int .i64 x4, .int .i64 x5, .int .i64 x6, .int .i64 x7])]).run Try.prog w = .ok (.slice (some ⟨w.heap.size, 0, none⟩) 1 1) (w.alloc (.cells #[.slice x0 m0 c0, .slice x1 m1 c1, .slice x2 m2 c2, .int .i64 x3, .int .i64 x4, .int .i64 x5, .int .i64 x6, .int .i64 x7] 52)) := by kernel_rfl
theorem bsl50_0_  (w : World) : (Instr.buildSlice 50 0 #[]).run Try.prog w = .ok (.slice (some ⟨w.heap.size, 0, none⟩) 0 0) (w.alloc (.cells #[] 3)) := by kernel_rfl
theorem bsl50_1_0 (x0 : Int) (w : World) : (Instr.buildSlice 50 1 #[(0, .int .i64 x0)]).run Try.prog w = .ok (.slice (some ⟨w.heap.size, 0, none⟩) 1 1) (w.alloc (.cells #[.int .i64 x0] 3)) := by kernel_rfl
theorem bsl50_5_0_1_2_3_4 (x0 : Int) (x1 : Int) (x2 : Int) (x3 : Int) (x4 : Int) (w : World) : (Instr.buildSlice 50 5 #[(0, .int .i64 x0), (1, .int .i64 x1), (2, .int .i64 x2), (3, .int .i64 x3), (4, .int .i64 x4)]).run Try.prog w = .ok (.slice (some ⟨w.heap.size, 0, none⟩) 5 5) (w.alloc (.cells #[.int .i64 x0, .int .i64 x1, .int .i64 x2, .int .i64 x3, .int .i64 x4] 3)) := by kernel_rfl
theorem fa24_0 : E.FA Try.prog 24 0 0 := fun _ _ _ => by kernel_rfl
theorem fa24_1 : E.FA Try.prog 24 1 1 := fun _ _ _ => by kernel_rfl
theorem fa24_2 : E.FA Try.prog 24 2 2 := fun _ _ _ => by kernel_rfl
theorem fa28_0 : E.FA Try.prog 28 0 0 := fun _ _ _ => by kernel_rfl
theorem fa28_1 : E.FA Try.prog 28 1 3 := fun _ _ _ => by kernel_rfl
theorem fa28_2 : E.FA Try.prog 28 2 4 := fun _ _ _ => by kernel_rfl
theorem fa28_3 : E.FA Try.prog 28 3 5 := fun _ _ _ => by kernel_rfl
theorem fa52_0 : E.FA Try.prog 52 0 0 := fun _ _ _ => by kernel_rfl
theorem fa52_1 : E.FA Try.prog 52 1 1 := fun _ _ _ => by kernel_rfl
theorem fa52_2 : E.FA Try.prog 52 2 2 := fun _ _ _ => by kernel_rfl
theorem fa52_3 : E.FA Try.prog 52 3 3 := fun _ _ _ => by kernel_rfl
theorem fa52_4 : E.FA Try.prog 52 4 4 := fun _ _ _ => by kernel_rfl
theorem fa52_5 : E.FA Try.prog 52 5 5 := fun _ _ _ => by kernel_rfl
theorem fa52_6 : E.FA Try.prog 52 6 6 := fun _ _ _ => by kernel_rfl
theorem fa52_7 : E.FA Try.prog 52 7 7 := fun _ _ _ => by kernel_rfl
theorem fa61_0 : E.FA Try.prog 61 0 0 := fun _ _ _ => by kernel_rfl
theorem fa61_1 : E.FA Try.prog 61 1 1 := fun _ _ _ => by kernel_rfl
theorem fa63_0 : E.FA Try.prog 63 0 0 := fun _ _ _ => by kernel_rfl
theorem fa63_1 : E.FA Try.prog 63 1 2 := fun _ _ _ => by kernel_rfl
theorem fa69_0 : E.FA Try.prog 69 0 0 := fun _ _ _ => by kernel_rfl
theorem fa77_0 : E.FA Try.prog 77 0 0 := fun _ _ _ => by kernel_rfl
theorem fa77_1 : E.FA Try.prog 77 1 1 := fun _ _ _ => by kernel_rfl
theorem fa77_2 : E.FA Try.prog 77 2 2 := fun _ _ _ => by kernel_rfl
theorem fa92_0 : E.FA Try.prog 92 0 0 := fun _ _ _ => by kernel_rfl
theorem fa92_1 : E.FA Try.prog 92 1 1 := fun _ _ _ => by kernel_rfl
theorem in104 : E.In Try.prog 104 (.pointer none) 1 8 := by unfold E.In; kernel_rfl
theorem in22 : E.In Try.prog 22 (.slice none 0 0) 1 24 := by unfold E.In; kernel_rfl
theorem in24 : E.In Try.prog 24 (.agg #[.int .i64 0, .int .i64 0, .slice none 0 0]) 3 40 := by unfold E.In; kernel_rfl
theorem in25 : E.In Try.prog 25 (.slice none 0 0) 1 24 := by unfold E.In; kernel_rfl
theorem in26 : E.In Try.prog 26 (.int .u64 0) 1 8 := by unfold E.In; kernel_rfl
theorem in28 : E.In Try.prog 28 (.agg #[.int .i64 0, .int .i64 0, .slice none 0 0, .slice none 0 0, .slice none 0 0, .int .u64 0]) 6 96 := by unfold E.In; kernel_rfl
theorem in3 : E.In Try.prog 3 (.int .i64 0) 1 8 := by unfold E.In; kernel_rfl
theorem in31 : E.In Try.prog 31 (.int .i64 0) 1 8 := by unfold E.In; kernel_rfl
theorem in5 : E.In Try.prog 5 (.int .u8 0) 1 1 := by unfold E.In; kernel_rfl
theorem in50 : E.In Try.prog 50 (.slice none 0 0) 1 24 := by unfold E.In; kernel_rfl
theorem in52 : E.In Try.prog 52 (.agg #[.slice none 0 0, .slice none 0 0, .slice none 0 0, .int .i64 0, .int .i64 0, .int .i64 0, .int .i64 0, .int .i64 0]) 8 112 := by unfold E.In; kernel_rfl
theorem in63 : E.In Try.prog 63 (.agg #[.int .i64 0, .int .i64 0, .slice none 0 0]) 3 40 := by unfold E.In; kernel_rfl
theorem in92 : E.In Try.prog 92 (.agg #[.int .i64 0, .int .i64 0]) 2 16 := by unfold E.In; kernel_rfl
theorem is24 : E.Is Try.prog 24 3 := ⟨fun _ => by kernel_rfl, fun _ => by kernel_rfl⟩
theorem is28 : E.Is Try.prog 28 6 := ⟨fun _ => by kernel_rfl, fun _ => by kernel_rfl⟩
theorem is52 : E.Is Try.prog 52 8 := ⟨fun _ => by kernel_rfl, fun _ => by kernel_rfl⟩
theorem is61 : E.Is Try.prog 61 2 := ⟨fun _ => by kernel_rfl, fun _ => by kernel_rfl⟩
theorem is63 : E.Is Try.prog 63 3 := ⟨fun _ => by kernel_rfl, fun _ => by kernel_rfl⟩
theorem is92 : E.Is Try.prog 92 2 := ⟨fun _ => by kernel_rfl, fun _ => by kernel_rfl⟩
theorem mixed : Try.prog.follows .mixedOrders = true := by kernel_rfl
theorem na104 : E.Na Try.prog 104 := fun _ => by kernel_rfl
theorem na22 : E.Na Try.prog 22 := fun _ => by kernel_rfl
theorem na25 : E.Na Try.prog 25 := fun _ => by kernel_rfl
theorem na26 : E.Na Try.prog 26 := fun _ => by kernel_rfl
theorem na3 : E.Na Try.prog 3 := fun _ => by kernel_rfl
theorem na31 : E.Na Try.prog 31 := fun _ => by kernel_rfl
theorem na5 : E.Na Try.prog 5 := fun _ => by kernel_rfl
theorem na50 : E.Na Try.prog 50 := fun _ => by kernel_rfl
theorem nm10 : E.Nm Try.prog 10 := ⟨Try.f10, Try.func10, rfl, by kernel_rfl⟩
theorem nm11 : E.Nm Try.prog 11 := ⟨Try.f11, Try.func11, rfl, by kernel_rfl⟩
theorem nm12 : E.Nm Try.prog 12 := ⟨Try.f12, Try.func12, rfl, by kernel_rfl⟩
theorem nm13 : E.Nm Try.prog 13 := ⟨Try.f13, Try.func13, rfl, by kernel_rfl⟩
theorem nm14 : E.Nm Try.prog 14 := ⟨Try.f14, Try.func14, rfl, by kernel_rfl⟩
theorem nm15 : E.Nm Try.prog 15 := ⟨Try.f15, Try.func15, rfl, by kernel_rfl⟩
theorem nm16 : E.Nm Try.prog 16 := ⟨Try.f16, Try.func16, rfl, by kernel_rfl⟩
theorem nm17 : E.Nm Try.prog 17 := ⟨Try.f17, Try.func17, rfl, by kernel_rfl⟩
theorem nm18 : E.Nm Try.prog 18 := ⟨Try.f18, Try.func18, rfl, by kernel_rfl⟩
theorem nm19 : E.Nm Try.prog 19 := ⟨Try.f19, Try.func19, rfl, by kernel_rfl⟩
theorem nm20 : E.Nm Try.prog 20 := ⟨Try.f20, Try.func20, rfl, by kernel_rfl⟩
theorem nm21 : E.Nm Try.prog 21 := ⟨Try.f21, Try.func21, rfl, by kernel_rfl⟩
theorem nm22 : E.Nm Try.prog 22 := ⟨Try.f22, Try.func22, rfl, by kernel_rfl⟩
theorem nm23 : E.Nm Try.prog 23 := ⟨Try.f23, Try.func23, rfl, by kernel_rfl⟩
theorem nm24 : E.Nm Try.prog 24 := ⟨Try.f24, Try.func24, rfl, by kernel_rfl⟩
theorem nm25 : E.Nm Try.prog 25 := ⟨Try.f25, Try.func25, rfl, by kernel_rfl⟩
theorem nm26 : E.Nm Try.prog 26 := ⟨Try.f26, Try.func26, rfl, by kernel_rfl⟩
theorem nm27 : E.Nm Try.prog 27 := ⟨Try.f27, Try.func27, rfl, by kernel_rfl⟩
theorem nm28 : E.Nm Try.prog 28 := ⟨Try.f28, Try.func28, rfl, by kernel_rfl⟩
theorem nm29 : E.Nm Try.prog 29 := ⟨Try.f29, Try.func29, rfl, by kernel_rfl⟩
theorem nm30 : E.Nm Try.prog 30 := ⟨Try.f30, Try.func30, rfl, by kernel_rfl⟩
theorem nm31 : E.Nm Try.prog 31 := ⟨Try.f31, Try.func31, rfl, by kernel_rfl⟩
theorem nm32 : E.Nm Try.prog 32 := ⟨Try.f32, Try.func32, rfl, by kernel_rfl⟩
theorem nm33 : E.Nm Try.prog 33 := ⟨Try.f33, Try.func33, rfl, by kernel_rfl⟩
theorem nm34 : E.Nm Try.prog 34 := ⟨Try.f34, Try.func34, rfl, by kernel_rfl⟩
theorem nm35 : E.Nm Try.prog 35 := ⟨Try.f35, Try.func35, rfl, by kernel_rfl⟩
theorem nm36 : E.Nm Try.prog 36 := ⟨Try.f36, Try.func36, rfl, by kernel_rfl⟩
theorem nm37 : E.Nm Try.prog 37 := ⟨Try.f37, Try.func37, rfl, by kernel_rfl⟩
theorem nm38 : E.Nm Try.prog 38 := ⟨Try.f38, Try.func38, rfl, by kernel_rfl⟩
theorem nm39 : E.Nm Try.prog 39 := ⟨Try.f39, Try.func39, rfl, by kernel_rfl⟩
theorem nm4 : E.Nm Try.prog 4 := ⟨Try.f4, Try.func4, rfl, by kernel_rfl⟩
theorem nm40 : E.Nm Try.prog 40 := ⟨Try.f40, Try.func40, rfl, by kernel_rfl⟩
theorem nm41 : E.Nm Try.prog 41 := ⟨Try.f41, Try.func41, rfl, by kernel_rfl⟩
theorem nm42 : E.Nm Try.prog 42 := ⟨Try.f42, Try.func42, rfl, by kernel_rfl⟩
theorem nm43 : E.Nm Try.prog 43 := ⟨Try.f43, Try.func43, rfl, by kernel_rfl⟩
theorem nm44 : E.Nm Try.prog 44 := ⟨Try.f44, Try.func44, rfl, by kernel_rfl⟩
theorem nm45 : E.Nm Try.prog 45 := ⟨Try.f45, Try.func45, rfl, by kernel_rfl⟩
theorem nm46 : E.Nm Try.prog 46 := ⟨Try.f46, Try.func46, rfl, by kernel_rfl⟩
theorem nm47 : E.Nm Try.prog 47 := ⟨Try.f47, Try.func47, rfl, by kernel_rfl⟩
theorem nm48 : E.Nm Try.prog 48 := ⟨Try.f48, Try.func48, rfl, by kernel_rfl⟩
theorem nm49 : E.Nm Try.prog 49 := ⟨Try.f49, Try.func49, rfl, by kernel_rfl⟩
theorem nm5 : E.Nm Try.prog 5 := ⟨Try.f5, Try.func5, rfl, by kernel_rfl⟩
theorem nm50 : E.Nm Try.prog 50 := ⟨Try.f50, Try.func50, rfl, by kernel_rfl⟩
theorem nm51 : E.Nm Try.prog 51 := ⟨Try.f51, Try.func51, rfl, by kernel_rfl⟩
theorem nm52 : E.Nm Try.prog 52 := ⟨Try.f52, Try.func52, rfl, by kernel_rfl⟩
theorem nm53 : E.Nm Try.prog 53 := ⟨Try.f53, Try.func53, rfl, by kernel_rfl⟩
theorem nm54 : E.Nm Try.prog 54 := ⟨Try.f54, Try.func54, rfl, by kernel_rfl⟩
theorem nm55 : E.Nm Try.prog 55 := ⟨Try.f55, Try.func55, rfl, by kernel_rfl⟩
theorem nm56 : E.Nm Try.prog 56 := ⟨Try.f56, Try.func56, rfl, by kernel_rfl⟩
theorem nm57 : E.Nm Try.prog 57 := ⟨Try.f57, Try.func57, rfl, by kernel_rfl⟩
theorem nm58 : E.Nm Try.prog 58 := ⟨Try.f58, Try.func58, rfl, by kernel_rfl⟩
theorem nm59 : E.Nm Try.prog 59 := ⟨Try.f59, Try.func59, rfl, by kernel_rfl⟩
theorem nm6 : E.Nm Try.prog 6 := ⟨Try.f6, Try.func6, rfl, by kernel_rfl⟩
theorem nm60 : E.Nm Try.prog 60 := ⟨Try.f60, Try.func60, rfl, by kernel_rfl⟩
theorem nm61 : E.Nm Try.prog 61 := ⟨Try.f61, Try.func61, rfl, by kernel_rfl⟩
theorem nm62 : E.Nm Try.prog 62 := ⟨Try.f62, Try.func62, rfl, by kernel_rfl⟩
theorem nm63 : E.Nm Try.prog 63 := ⟨Try.f63, Try.func63, rfl, by kernel_rfl⟩
theorem nm64 : E.Nm Try.prog 64 := ⟨Try.f64, Try.func64, rfl, by kernel_rfl⟩
theorem nm65 : E.Nm Try.prog 65 := ⟨Try.f65, Try.func65, rfl, by kernel_rfl⟩
theorem nm66 : E.Nm Try.prog 66 := ⟨Try.f66, Try.func66, rfl, by kernel_rfl⟩
theorem nm67 : E.Nm Try.prog 67 := ⟨Try.f67, Try.func67, rfl, by kernel_rfl⟩
theorem nm68 : E.Nm Try.prog 68 := ⟨Try.f68, Try.func68, rfl, by kernel_rfl⟩
theorem nm69 : E.Nm Try.prog 69 := ⟨Try.f69, Try.func69, rfl, by kernel_rfl⟩
theorem nm7 : E.Nm Try.prog 7 := ⟨Try.f7, Try.func7, rfl, by kernel_rfl⟩
theorem nm71 : E.Nm Try.prog 71 := ⟨Try.f71, Try.func71, rfl, by kernel_rfl⟩
theorem nm72 : E.Nm Try.prog 72 := ⟨Try.f72, Try.func72, rfl, by kernel_rfl⟩
theorem nm73 : E.Nm Try.prog 73 := ⟨Try.f73, Try.func73, rfl, by kernel_rfl⟩
theorem nm8 : E.Nm Try.prog 8 := ⟨Try.f8, Try.func8, rfl, by kernel_rfl⟩
theorem nm9 : E.Nm Try.prog 9 := ⟨Try.f9, Try.func9, rfl, by kernel_rfl⟩
end Go.Proofs.Yteibcphdbkgcgaa
