/- RouteAlone: the law holds for every input, and each argument reads afterwards as it did before. -/
import Derived.Test.YtflkbabhbnmajaaRows
import Derived.Test.YtflkbabhbnmajaaK6
namespace Go.Proofs.Ytflkbabhbnmajaa
open Go Go.RowKit Go.ChangeShapes Go.WideShapes Go.ChangeAt
set_option linter.unusedVariables false
set_option linter.unusedSimpArgs false
theorem own : ownKnob Try.prog.godebug = none := by kernel_rfl
theorem laidOut : laidOutB Try.prog = true := by kernel_rfl

set_option maxRecDepth 100000 in
theorem rc24 {H : Type} {enc : TypeId × Value → H} {w : World} {fuel : Nat} {cs : List Value} {x : DataW H × List MemPlace} (h : DataW.trod enc Try.prog w 0 (fun _ => true) true fuel 24 cs = some x) (hw : (x.1.weights Try.prog 24).all (· ≤ reachBytes) = true) :
    ∃ (x0 : Int) (x1 : Int) (A2 : Option Addr) (c2 : Nat) (x2 : List UInt8), cs = [.int .i64 x0, .int .i64 x1, .slice A2 x2.length c2] ∧ -9223372036854775808 ≤ x0 ∧ x0 ≤ 9223372036854775807 ∧ -9223372036854775808 ≤ x1 ∧ x1 ≤ 9223372036854775807 ∧ E.Rd w (E.Old w) A2 (E.u8s x2) ∧ x2.length ≤ 140737488351232 := by
  obtain ⟨xs, n, _, rfl, hl, hlen, hf⟩ := DataW.trod_struct Try.underlying24 h
  rw [show Try.prog.cellsOf 24 = 3 from by kernel_rfl] at hl
  match cs, hl with
  | [k0, k1, k2], _ =>
  match xs, hlen with
  | [y0, y1, y2], _ =>
  have g0 : DataW.trod enc Try.prog w 0 (fun _ => true) true n 3 [k0] = some y0 := E.tk (t := 3) (k := 1) (xs := List.drop 0 [k0, k1, k2]) (o := some y0) (hf 0 _ rfl) (by kernel_rfl)
  have g1 : DataW.trod enc Try.prog w 0 (fun _ => true) true n 3 [k1] = some y1 := E.tk (t := 3) (k := 1) (xs := List.drop 1 [k0, k1, k2]) (o := some y1) (hf 1 _ rfl) (by kernel_rfl)
  have g2 : DataW.trod enc Try.prog w 0 (fun _ => true) true n 22 [k2] = some y2 := E.tk (t := 22) (k := 1) (xs := List.drop 2 [k0, k1, k2]) (o := some y2) (hf 2 _ rfl) (by kernel_rfl)
  simp only [DataW.weights, Try.underlying24, List.map_cons, List.map_nil] at hw
  obtain ⟨x0, q0, p0_0, p0_1⟩ := E.rc_i64 Try.underlying3 g0
  obtain ⟨x1, q1, p1_0, p1_1⟩ := E.rc_i64 Try.underlying3 g1
  obtain ⟨A2, c2, x2, q2, p2_0, p2_1⟩ := E.rc_u8s Try.underlying22 Try.underlying5 (by kernel_rfl) (by kernel_rfl) g2 (E.weights_at hw (j := 2) rfl rfl)
  simp only [List.cons.injEq, and_true] at q0
  simp only [List.cons.injEq, and_true] at q1
  simp only [List.cons.injEq, and_true] at q2
  obtain rfl := q0
  obtain rfl := q1
  obtain rfl := q2
  exact ⟨x0, x1, A2, c2, x2, rfl, p0_0, p0_1, p1_0, p1_1, p2_0, p2_1⟩

set_option maxRecDepth 100000 in
theorem rc79 {H : Type} {enc : TypeId × Value → H} {w : World} {fuel : Nat} {cs : List Value} {x : DataW H × List MemPlace} (h : DataW.trod enc Try.prog w 0 (fun _ => true) true fuel 79 cs = some x) (hw : (x.1.weights Try.prog 79).all (· ≤ reachBytes) = true) :
    ∃ (A0 : Option Addr) (c0 : Nat) (x0 : List Int) (A1 : Option Addr) (c1 : Nat) (x1 : List Int) (A2 : Option Addr) (c2 : Nat) (x2 : List Int) (x3 : Int) (x4 : Int) (x5 : Int) (x6 : Int) (x7 : Int), cs = [.slice A0 x0.length c0, .slice A1 x1.length c1, .slice A2 x2.length c2, .int .i64 x3, .int .i64 x4, .int .i64 x5, .int .i64 x6, .int .i64 x7] ∧ E.Rd w (E.Old w) A0 (E.ints x0) ∧ x0.length * 8 ≤ 140737488351232 ∧ (∀ n ∈ x0, -9223372036854775808 ≤ n ∧ n ≤ 9223372036854775807) ∧ E.Rd w (E.Old w) A1 (E.ints x1) ∧ x1.length * 8 ≤ 140737488351232 ∧ (∀ n ∈ x1, -9223372036854775808 ≤ n ∧ n ≤ 9223372036854775807) ∧ E.Rd w (E.Old w) A2 (E.ints x2) ∧ x2.length * 8 ≤ 140737488351232 ∧ (∀ n ∈ x2, -9223372036854775808 ≤ n ∧ n ≤ 9223372036854775807) ∧ -9223372036854775808 ≤ x3 ∧ x3 ≤ 9223372036854775807 ∧ -9223372036854775808 ≤ x4 ∧ x4 ≤ 9223372036854775807 ∧ -9223372036854775808 ≤ x5 ∧ x5 ≤ 9223372036854775807 ∧ -9223372036854775808 ≤ x6 ∧ x6 ≤ 9223372036854775807 ∧ -9223372036854775808 ≤ x7 ∧ x7 ≤ 9223372036854775807 := by
  obtain ⟨xs, n, _, rfl, hl, hlen, hf⟩ := DataW.trod_struct Try.underlying79 h
  rw [show Try.prog.cellsOf 79 = 8 from by kernel_rfl] at hl
  match cs, hl with
  | [k0, k1, k2, k3, k4, k5, k6, k7], _ =>
  match xs, hlen with
  | [y0, y1, y2, y3, y4, y5, y6, y7], _ =>
  have g0 : DataW.trod enc Try.prog w 0 (fun _ => true) true n 31 [k0] = some y0 := E.tk (t := 31) (k := 1) (xs := List.drop 0 [k0, k1, k2, k3, k4, k5, k6, k7]) (o := some y0) (hf 0 _ rfl) (by kernel_rfl)
  have g1 : DataW.trod enc Try.prog w 0 (fun _ => true) true n 31 [k1] = some y1 := E.tk (t := 31) (k := 1) (xs := List.drop 1 [k0, k1, k2, k3, k4, k5, k6, k7]) (o := some y1) (hf 1 _ rfl) (by kernel_rfl)
  have g2 : DataW.trod enc Try.prog w 0 (fun _ => true) true n 31 [k2] = some y2 := E.tk (t := 31) (k := 1) (xs := List.drop 2 [k0, k1, k2, k3, k4, k5, k6, k7]) (o := some y2) (hf 2 _ rfl) (by kernel_rfl)
  have g3 : DataW.trod enc Try.prog w 0 (fun _ => true) true n 3 [k3] = some y3 := E.tk (t := 3) (k := 1) (xs := List.drop 3 [k0, k1, k2, k3, k4, k5, k6, k7]) (o := some y3) (hf 3 _ rfl) (by kernel_rfl)
  have g4 : DataW.trod enc Try.prog w 0 (fun _ => true) true n 3 [k4] = some y4 := E.tk (t := 3) (k := 1) (xs := List.drop 4 [k0, k1, k2, k3, k4, k5, k6, k7]) (o := some y4) (hf 4 _ rfl) (by kernel_rfl)
  have g5 : DataW.trod enc Try.prog w 0 (fun _ => true) true n 3 [k5] = some y5 := E.tk (t := 3) (k := 1) (xs := List.drop 5 [k0, k1, k2, k3, k4, k5, k6, k7]) (o := some y5) (hf 5 _ rfl) (by kernel_rfl)
  have g6 : DataW.trod enc Try.prog w 0 (fun _ => true) true n 3 [k6] = some y6 := E.tk (t := 3) (k := 1) (xs := List.drop 6 [k0, k1, k2, k3, k4, k5, k6, k7]) (o := some y6) (hf 6 _ rfl) (by kernel_rfl)
  have g7 : DataW.trod enc Try.prog w 0 (fun _ => true) true n 3 [k7] = some y7 := E.tk (t := 3) (k := 1) (xs := List.drop 7 [k0, k1, k2, k3, k4, k5, k6, k7]) (o := some y7) (hf 7 _ rfl) (by kernel_rfl)
  simp only [DataW.weights, Try.underlying79, List.map_cons, List.map_nil] at hw
  obtain ⟨A0, c0, x0, q0, p0_0, p0_1, p0_2⟩ := E.rc_ints Try.underlying31 Try.underlying3 (by kernel_rfl) (by kernel_rfl) g0 (E.weights_at hw (j := 0) rfl rfl)
  obtain ⟨A1, c1, x1, q1, p1_0, p1_1, p1_2⟩ := E.rc_ints Try.underlying31 Try.underlying3 (by kernel_rfl) (by kernel_rfl) g1 (E.weights_at hw (j := 1) rfl rfl)
  obtain ⟨A2, c2, x2, q2, p2_0, p2_1, p2_2⟩ := E.rc_ints Try.underlying31 Try.underlying3 (by kernel_rfl) (by kernel_rfl) g2 (E.weights_at hw (j := 2) rfl rfl)
  obtain ⟨x3, q3, p3_0, p3_1⟩ := E.rc_i64 Try.underlying3 g3
  obtain ⟨x4, q4, p4_0, p4_1⟩ := E.rc_i64 Try.underlying3 g4
  obtain ⟨x5, q5, p5_0, p5_1⟩ := E.rc_i64 Try.underlying3 g5
  obtain ⟨x6, q6, p6_0, p6_1⟩ := E.rc_i64 Try.underlying3 g6
  obtain ⟨x7, q7, p7_0, p7_1⟩ := E.rc_i64 Try.underlying3 g7
  simp only [List.cons.injEq, and_true] at q0
  simp only [List.cons.injEq, and_true] at q1
  simp only [List.cons.injEq, and_true] at q2
  simp only [List.cons.injEq, and_true] at q3
  simp only [List.cons.injEq, and_true] at q4
  simp only [List.cons.injEq, and_true] at q5
  simp only [List.cons.injEq, and_true] at q6
  simp only [List.cons.injEq, and_true] at q7
  obtain rfl := q0
  obtain rfl := q1
  obtain rfl := q2
  obtain rfl := q3
  obtain rfl := q4
  obtain rfl := q5
  obtain rfl := q6
  obtain rfl := q7
  exact ⟨A0, c0, x0, A1, c1, x1, A2, c2, x2, x3, x4, x5, x6, x7, rfl, p0_0, p0_1, p0_2, p1_0, p1_1, p1_2, p2_0, p2_1, p2_2, p3_0, p3_1, p4_0, p4_1, p5_0, p5_1, p6_0, p6_1, p7_0, p7_1⟩

theorem tmat79 {H : Type} {enc : TypeId × Value → H} {w : World} {fuel : Nat} {cs : List Value} {x : DataW H × List MemPlace} (h : DataW.trod enc Try.prog w 0 (fun _ => true) true fuel 79 cs = some x) (hw : (x.1.weights Try.prog 79).all (· ≤ reachBytes) = true) : E.TmAt w cs := by
  obtain ⟨A0, c0, x0, A1, c1, x1, A2, c2, x2, x3, x4, x5, x6, x7, rfl, r0, l0, s0, r1, l1, s1, r2, l2, s2, a3, b3, a4, b4, a5, b5, a6, b6, a7, b7⟩ := rc79 h hw
  exact ⟨⟨⟨x0, x1, x2, x3, x4, x5, x6, x7⟩, A0, A1, A2, c0, c1, c2⟩, rfl, ⟨r0, r1, r2⟩, ⟨l0, l1, l2, s0, s1, s2, ⟨a3, b3⟩, ⟨a4, b4⟩, ⟨a5, b5⟩, ⟨a6, b6⟩, ⟨a7, b7⟩⟩⟩

set_option maxRecDepth 100000 in
theorem rc28 {H : Type} {enc : TypeId × Value → H} {w : World} {fuel : Nat} {cs : List Value} {x : DataW H × List MemPlace} (h : DataW.trod enc Try.prog w 0 (fun _ => true) true fuel 28 cs = some x) (hw : (x.1.weights Try.prog 28).all (· ≤ reachBytes) = true) :
    ∃ (x0 : Int) (x1 : Int) (A2 : Option Addr) (c2 : Nat) (x2 : List UInt8) (A3 : Option Addr) (c3 : Nat) (x3 : List UInt8) (A4 : Option Addr) (c4 : Nat) (x4 : List E.Tm) (x5 : Int), cs = [.int .i64 x0, .int .i64 x1, .slice A2 x2.length c2, .slice A3 x3.length c3, .slice A4 x4.length c4, .int .u64 x5] ∧ -9223372036854775808 ≤ x0 ∧ x0 ≤ 9223372036854775807 ∧ -9223372036854775808 ≤ x1 ∧ x1 ≤ 9223372036854775807 ∧ E.Rd w (E.Old w) A2 (E.u8s x2) ∧ x2.length ≤ 140737488351232 ∧ E.Rd w (E.Old w) A3 (E.u8s x3) ∧ x3.length ≤ 140737488351232 ∧ E.Rd w (E.Old w) A4 (E.tms x4) ∧ (∀ m ∈ x4, m.rd w (E.Old w)) ∧ (∀ m ∈ x4, m.q.fit) ∧ x4.length * 112 ≤ 140737488351232 ∧ 0 ≤ x5 ∧ x5 < 18446744073709551616 := by
  obtain ⟨xs, n, _, rfl, hl, hlen, hf⟩ := DataW.trod_struct Try.underlying28 h
  rw [show Try.prog.cellsOf 28 = 6 from by kernel_rfl] at hl
  match cs, hl with
  | [k0, k1, k2, k3, k4, k5], _ =>
  match xs, hlen with
  | [y0, y1, y2, y3], _ =>
  have g0 : DataW.trod enc Try.prog w 0 (fun _ => true) true n 24 [k0, k1, k2] = some y0 := E.tk (t := 24) (k := 3) (xs := List.drop 0 [k0, k1, k2, k3, k4, k5]) (o := some y0) (hf 0 _ rfl) (by kernel_rfl)
  have g1 : DataW.trod enc Try.prog w 0 (fun _ => true) true n 22 [k3] = some y1 := E.tk (t := 22) (k := 1) (xs := List.drop 3 [k0, k1, k2, k3, k4, k5]) (o := some y1) (hf 1 _ rfl) (by kernel_rfl)
  have g2 : DataW.trod enc Try.prog w 0 (fun _ => true) true n 25 [k4] = some y2 := E.tk (t := 25) (k := 1) (xs := List.drop 4 [k0, k1, k2, k3, k4, k5]) (o := some y2) (hf 2 _ rfl) (by kernel_rfl)
  have g3 : DataW.trod enc Try.prog w 0 (fun _ => true) true n 26 [k5] = some y3 := E.tk (t := 26) (k := 1) (xs := List.drop 5 [k0, k1, k2, k3, k4, k5]) (o := some y3) (hf 3 _ rfl) (by kernel_rfl)
  simp only [DataW.weights, Try.underlying28, List.map_cons, List.map_nil] at hw
  obtain ⟨x0, x1, A2, c2, x2, q0, p0_0, p0_1, p0_2, p0_3, p0_4, p0_5⟩ := rc24 g0 (E.weights_at hw (j := 0) rfl rfl)
  obtain ⟨A3, c3, x3, q1, p1_0, p1_1⟩ := E.rc_u8s Try.underlying22 Try.underlying5 (by kernel_rfl) (by kernel_rfl) g1 (E.weights_at hw (j := 1) rfl rfl)
  obtain ⟨A4, c4, x4, q2, p2_0, p2_1, p2_2, p2_3⟩ := E.rc_tms Try.underlying25 (by kernel_rfl) (by kernel_rfl) (tmat79) g2 (E.weights_at hw (j := 2) rfl rfl)
  obtain ⟨x5, q3, p3_0, p3_1⟩ := E.rc_u64 Try.underlying26 g3
  simp only [List.cons.injEq, and_true] at q0
  simp only [List.cons.injEq, and_true] at q1
  simp only [List.cons.injEq, and_true] at q2
  simp only [List.cons.injEq, and_true] at q3
  obtain ⟨rfl, rfl, rfl⟩ := q0
  obtain rfl := q1
  obtain rfl := q2
  obtain rfl := q3
  exact ⟨x0, x1, A2, c2, x2, A3, c3, x3, A4, c4, x4, x5, rfl, p0_0, p0_1, p0_2, p0_3, p0_4, p0_5, p1_0, p1_1, p2_0, p2_1, p2_2, p2_3, p3_0, p3_1⟩

set_option maxRecDepth 100000 in
theorem op28 {H : Type} {enc : TypeId × Value → H} {w : World} {r : Reach} {b0 : Nat} {v : Value} {d : DataW H} {ps : List MemPlace} (hval : Value.okWide Try.prog w r b0 28 v) (h : DataW.Trod enc Try.prog w 0 (fun _ => true) true 28 v d ps) (hw : (d.weights Try.prog 28).all (· ≤ reachBytes) = true) :
    ∃ (x0 : Int) (x1 : Int) (A2 : Option Addr) (c2 : Nat) (x2 : List UInt8) (A3 : Option Addr) (c3 : Nat) (x3 : List UInt8) (A4 : Option Addr) (c4 : Nat) (x4 : List E.Tm) (x5 : Int), v = .agg #[.int .i64 x0, .int .i64 x1, .slice A2 x2.length c2, .slice A3 x3.length c3, .slice A4 x4.length c4, .int .u64 x5] ∧ -9223372036854775808 ≤ x0 ∧ x0 ≤ 9223372036854775807 ∧ -9223372036854775808 ≤ x1 ∧ x1 ≤ 9223372036854775807 ∧ E.Rd w (E.Old w) A2 (E.u8s x2) ∧ x2.length ≤ 140737488351232 ∧ E.Rd w (E.Old w) A3 (E.u8s x3) ∧ x3.length ≤ 140737488351232 ∧ E.Rd w (E.Old w) A4 (E.tms x4) ∧ (∀ m ∈ x4, m.rd w (E.Old w)) ∧ (∀ m ∈ x4, m.q.fit) ∧ x4.length * 112 ≤ 140737488351232 ∧ 0 ≤ x5 ∧ x5 < 18446744073709551616 := by
  obtain ⟨cs, rfl, _⟩ := okWide_struct Try.underlying28 hval
  obtain ⟨fuel, hf⟩ := h
  obtain ⟨x0, x1, A2, c2, x2, A3, c3, x3, A4, c4, x4, x5, e, p0, p1, p2, p3, p4, p5, p6, p7, p8, p9, p10, p11, p12, p13⟩ := rc28 hf hw
  simp only [Value.cells] at e
  have e2 : cs = #[.int .i64 x0, .int .i64 x1, .slice A2 x2.length c2, .slice A3 x3.length c3, .slice A4 x4.length c4, .int .u64 x5] := by cases cs; simp at e; rw [e]
  subst e2
  exact ⟨x0, x1, A2, c2, x2, A3, c3, x3, A4, c4, x4, x5, rfl, p0, p1, p2, p3, p4, p5, p6, p7, p8, p9, p10, p11, p12, p13⟩

set_option maxRecDepth 100000 in
theorem ops28 {H : Type} {enc : TypeId × Value → H} {w : World} {r : Reach} {b0 : Nat} {v : Value} {d : DataW H} {ps : List MemPlace} (hval : Value.okWide Try.prog w r b0 28 v) (h : DataW.Trod enc Try.prog w 0 (fun _ => true) true 28 v d ps) (hw : (d.weights Try.prog 28).all (· ≤ reachBytes) = true) : ∃ g : E.Cfg, v = g.v ∧ g.rd w (E.Old w) ∧ g.q.fit := by
  obtain ⟨x0, x1, A2, c2, x2, A3, c3, x3, A4, c4, x4, x5, rfl, a0, b0, a1, b1, r2, l2, r3, l3, r4, m4, f4, l4, a5, b5⟩ := op28 hval h hw
  exact ⟨⟨x0, x1, x2, x3, x4, x5, A2, c2, A3, c3, A4, c4⟩, rfl, ⟨r2, r3, r4, m4⟩, ⟨⟨a0, b0⟩, ⟨a1, b1⟩, l2, l3, by simpa [E.Cfg.q] using l4, fun t ht => by
    obtain ⟨m, hm, rfl⟩ := List.mem_map.1 ht
    exact f4 m hm, ⟨a5, b5⟩⟩⟩

set_option maxRecDepth 100000 in
theorem rc30 {H : Type} {enc : TypeId × Value → H} {w : World} {fuel : Nat} {cs : List Value} {x : DataW H × List MemPlace} (h : DataW.trod enc Try.prog w 0 (fun _ => true) true fuel 30 cs = some x) (hw : (x.1.weights Try.prog 30).all (· ≤ reachBytes) = true) :
    ∃ (x0 : Int) (x1 : Int), cs = [.int .i64 x0, .int .i64 x1] ∧ -9223372036854775808 ≤ x0 ∧ x0 ≤ 9223372036854775807 ∧ -9223372036854775808 ≤ x1 ∧ x1 ≤ 9223372036854775807 := by
  obtain ⟨xs, n, _, rfl, hl, hlen, hf⟩ := DataW.trod_struct Try.underlying30 h
  rw [show Try.prog.cellsOf 30 = 2 from by kernel_rfl] at hl
  match cs, hl with
  | [k0, k1], _ =>
  match xs, hlen with
  | [y0, y1], _ =>
  have g0 : DataW.trod enc Try.prog w 0 (fun _ => true) true n 3 [k0] = some y0 := E.tk (t := 3) (k := 1) (xs := List.drop 0 [k0, k1]) (o := some y0) (hf 0 _ rfl) (by kernel_rfl)
  have g1 : DataW.trod enc Try.prog w 0 (fun _ => true) true n 3 [k1] = some y1 := E.tk (t := 3) (k := 1) (xs := List.drop 1 [k0, k1]) (o := some y1) (hf 1 _ rfl) (by kernel_rfl)
  simp only [DataW.weights, Try.underlying30, List.map_cons, List.map_nil] at hw
  obtain ⟨x0, q0, p0_0, p0_1⟩ := E.rc_i64 Try.underlying3 g0
  obtain ⟨x1, q1, p1_0, p1_1⟩ := E.rc_i64 Try.underlying3 g1
  simp only [List.cons.injEq, and_true] at q0
  simp only [List.cons.injEq, and_true] at q1
  obtain rfl := q0
  obtain rfl := q1
  exact ⟨x0, x1, rfl, p0_0, p0_1, p1_0, p1_1⟩

set_option maxRecDepth 100000 in
theorem op30 {H : Type} {enc : TypeId × Value → H} {w : World} {r : Reach} {b0 : Nat} {v : Value} {d : DataW H} {ps : List MemPlace} (hval : Value.okWide Try.prog w r b0 30 v) (h : DataW.Trod enc Try.prog w 0 (fun _ => true) true 30 v d ps) (hw : (d.weights Try.prog 30).all (· ≤ reachBytes) = true) :
    ∃ (x0 : Int) (x1 : Int), v = .agg #[.int .i64 x0, .int .i64 x1] ∧ -9223372036854775808 ≤ x0 ∧ x0 ≤ 9223372036854775807 ∧ -9223372036854775808 ≤ x1 ∧ x1 ≤ 9223372036854775807 := by
  obtain ⟨cs, rfl, _⟩ := okWide_struct Try.underlying30 hval
  obtain ⟨fuel, hf⟩ := h
  obtain ⟨x0, x1, e, p0, p1, p2, p3⟩ := rc30 hf hw
  simp only [Value.cells] at e
  have e2 : cs = #[.int .i64 x0, .int .i64 x1] := by cases cs; simp at e; rw [e]
  subst e2
  exact ⟨x0, x1, rfl, p0, p1, p2, p3⟩

set_option maxRecDepth 100000 in
theorem RouteAlone_lifted (os : Os) (started : os.Started) (H : Type) (enc : TypeId × Value → H) :
    ReturnsInHanded {} Try.checked os 18 .any (Rows.routeAloneSpec.pre6 enc Try.prog Try.f18 Rows.routeAloneRow.domain false) (Rows.routeAloneSpec.post enc Try.prog Try.f18 false true false false) := by
  refine returnsInHanded_of_change_sized (C := Try.checked) own started (by kernel_rfl) Try.func18
    (ChangeSpec.witness6 (enc := enc) (C := Try.checked) false ⟨#[], #[.agg #[.int .i64 0, .int .i64 0, .slice none 0 0, .slice none 0 0, .slice none 0 0, .int .u64 0], .int .i64 0, .agg #[.int .i64 0, .int .i64 0], .int .i64 0, .int .u64 0], []⟩ 8 (by kernel_rfl) (by kernel_rfl) (by kernel_rfl) (by kernel_rfl)) ?_
  intro W base args ds gs before hval0 hW _ hsz0 _
  have hsz : (DataW.weightsEach Try.prog (Try.f18.params.toList ++ Rows.routeAloneSpec.plain.varTypes Try.prog) (ds ++ gs)).all (· ≤ reachBytes) = true := hsz0
  clear hsz0
  have hval : ∀ (j : Nat) t v, Try.f18.params[j]? = some t → args[j]? = some v → Value.okWide Try.prog W .any base t v := hval0
  have hW' := hW
  obtain ⟨p, q, hA0, hV, rfl, hfz, hnd⟩ := hW
  have hA : DataW.TrodAll enc Try.prog W 0 (fun _ => true) true Try.f18.params.toList args.toList ds p := hA0
  rw [Try.params18] at hA hval hsz
  obtain ⟨v0, vs0, d0, ds0, p0, q0, hargs, rfl, rfl, h0, r0⟩ := trodAll_cons hA
  obtain ⟨v1, vs1, d1, ds1, p1, q1, rfl, rfl, rfl, h1, r1⟩ := trodAll_cons r0
  obtain ⟨v2, vs2, d2, ds2, p2, q2, rfl, rfl, rfl, h2, r2⟩ := trodAll_cons r1
  obtain ⟨v3, vs3, d3, ds3, p3, q3, rfl, rfl, rfl, h3, r3⟩ := trodAll_cons r2
  obtain ⟨v4, vs4, d4, ds4, p4, q4, rfl, rfl, rfl, h4, r4⟩ := trodAll_cons r3
  obtain ⟨rfl, rfl, rfl⟩ := trodAll_nil r4
  obtain rfl : args = #[v0, v1, v2, v3, v4] := by cases args; simp_all
  obtain ⟨x0, rfl, z0_0, z0_1⟩ := ops28 (hval 0 28 v0 rfl rfl) h0 (E.weights_at hsz (j := 0) rfl rfl)
  obtain ⟨x1, rfl, z1_0, z1_1⟩ := E.op_i64 Try.underlying3 (hval 1 3 v1 rfl rfl) h1 (E.weights_at hsz (j := 1) rfl rfl)
  obtain ⟨x2, x3, rfl, z2_0, z2_1, z2_2, z2_3⟩ := op30 (hval 2 30 v2 rfl rfl) h2 (E.weights_at hsz (j := 2) rfl rfl)
  obtain ⟨x4, rfl, z3_0, z3_1⟩ := E.op_i64 Try.underlying3 (hval 3 3 v3 rfl rfl) h3 (E.weights_at hsz (j := 3) rfl rfl)
  obtain ⟨x5, rfl, z4_0, z4_1⟩ := E.op_u64 Try.underlying26 (hval 4 26 v4 rfl rfl) h4 (E.weights_at hsz (j := 4) rfl rfl)
  clear hA0 hval0
  refine (RouteAlone_ok x0 x1 x2 x3 x4 x5 W z0_0 z0_1 ⟨z4_0, z4_1⟩).mono fun e W' ⟨v, Hn, he, ⟨hv, _⟩, hA1⟩ => ?_
  subst hv he
  exact ⟨_, rfl, E.law_fin laidOut (by kernel_rfl) rfl rfl Try.underlying4 (fun gs hg => by subst hg; rfl) hW' hA1⟩

/-- RouteAlone: for every input the law returns true, and each argument reads afterwards as it did. -/
theorem routeAlone_holds : Rows.RouteAloneSaid :=
  OpenClaim.holds_of_wide 18 Try.f18 rfl rfl rfl rfl rfl rfl rfl ⟨rfl, rfl, rfl, rfl, rfl⟩ rfl rfl rfl rfl rfl (by kernel_rfl) Try.func18 (by kernel_rfl)
    (of_decide_eq_true (by kernel_rfl)) (by unfold Func.isWrapper; first | (rw [if_pos (by decide +kernel)]; kernel_rfl) | (rw [if_neg (by decide +kernel)]; exact ⟨rfl, rfl⟩))
    (fun os started H enc _ => RouteAlone_lifted os started H enc)
#print axioms routeAlone_holds
end Go.Proofs.Ytflkbabhbnmajaa
