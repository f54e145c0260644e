/- Part 2 of the texts behind the laws RouteAlone, RouteFar, RouteFirst, RouteLongest, RouteShortest, RouteSpreads: the logic, plain laws and walks that they need, for any input that these speak of. -/
import Derived.Lib.SliceRun
import Derived.Test.YtflkbabhbnmajaaK1
/- Walks (printed by gen.py). -/
namespace Go.Proofs.Ytflkbabhbnmajaa
open Go Go.RowKit
set_option linter.unusedSimpArgs false
set_option linter.unusedVariables false

set_option maxRecDepth 100000 in
theorem in_ok (n m : Int) (w0 : World) :
    Calls Try.prog 115 #[.int .i64 n, .int .i64 m] w0 (E.Post w0 (E.Old w0) fun v Hn => v = .bool (Fl.inB n m) ∧ Hn = []) := by
  refine E.calls_of (vs := [.int .i64 n, .int .i64 m]) (H := []) Try.func115 Try.ntmps115 rfl rfl (E.HA.start w0) ?_
  refine E.CW.seq ?_
  refine E.CW.region ?_
  refine E.OW.pure rfl rfl rfl (E.PV.assign rfl rfl) ?_
  refine E.OW.nil ?_
  refine E.then_n ?_
  refine E.CW.seq ?_
  refine E.CW.region ?_
  refine E.OW.pure rfl rfl rfl (E.PV.move rfl rfl) ?_
  refine E.OW.pure rfl rfl rfl (E.PV.geq rfl rfl rfl) ?_
  refine E.OW.pure rfl rfl rfl (E.PV.move rfl rfl) ?_
  all_goals (refine E.OW.split 7 rfl (fun hc => ?_) (fun hc => ?_) <;> (try simp only [E.b0, E.b1, E.b2, E.b3, E.b4, E.b5, E.b6, E.b7, E.b8, E.b9, E.b10, E.b11, E.b12, E.b13, E.b14, E.b15, E.b16, E.b17, E.b18, E.b19, E.b20, reduceCtorEq] at hc) <;> (try (exfalso; first | assumption | contradiction | omega)))
  all_goals (first | (refine E.OW.off rfl rfl rfl ?_) | (refine E.OW.pure rfl rfl rfl (E.PV.move rfl rfl) ?_))
  all_goals (first | (refine E.OW.off rfl rfl rfl ?_) | (refine E.OW.pure rfl rfl rfl (E.PV.move rfl rfl) ?_))
  all_goals (first | (refine E.OW.off rfl rfl rfl ?_) | (refine E.OW.pure rfl rfl rfl (E.PV.lss rfl rfl rfl) ?_))
  all_goals (first | (refine E.OW.pure rfl rfl rfl (E.PV.pick_t rfl rfl rfl) ?_) | (refine E.OW.pure rfl rfl rfl (E.PV.pick_f rfl rfl rfl) ?_))
  all_goals (refine E.OW.pure rfl rfl rfl (E.PV.assign rfl rfl) ?_)
  all_goals (
    refine E.OW.nil ?_
    refine E.then_n ?_
    refine E.CW.ret ?_
    refine E.KR.one [] Try.results115 rfl rfl ?_
    exact ⟨by simp [Fl.inB, *] <;> omega, rfl⟩)

set_option maxRecDepth 100000 in
theorem valid_ok (a b : Int) (w0 : World) :
    Calls Try.prog 112 #[.agg #[.int .i64 a, .int .i64 b]] w0 (E.Post w0 (E.Old w0) fun v Hn => v = .bool (Fl.valid a b) ∧ Hn = []) := by
  refine E.calls_of (vs := [.agg #[.int .i64 a, .int .i64 b]]) (H := []) Try.func112 Try.ntmps112 rfl rfl (E.HA.start w0) ?_
  refine E.CW.seq ?_
  refine E.CW.region ?_
  refine E.OW.box rfl rfl rfl rfl rfl rfl (fun B1 => ?_)
  refine E.OW.pure rfl rfl rfl (E.PV.assign rfl rfl) ?_
  refine E.OW.nil ?_
  refine E.then_n ?_
  refine E.CW.seq ?_
  refine E.CW.region ?_
  refine E.OW.pure rfl rfl rfl (E.PV.fieldAddr fa114_0 rfl rfl) ?_
  refine E.OW.pure rfl rfl rfl (E.PV.load (i := 0) na3 rfl rfl rfl rfl) ?_
  refine E.OW.pure rfl rfl rfl (E.PV.geq rfl rfl rfl) ?_
  refine E.OW.pure rfl rfl rfl (E.PV.move rfl rfl) ?_
  all_goals (refine E.OW.split 6 rfl (fun hc => ?_) (fun hc => ?_) <;> (try simp only [E.b0, E.b1, E.b2, E.b3, E.b4, E.b5, E.b6, E.b7, E.b8, E.b9, E.b10, E.b11, E.b12, E.b13, E.b14, E.b15, E.b16, E.b17, E.b18, E.b19, E.b20, reduceCtorEq] at hc) <;> (try (exfalso; first | assumption | contradiction | omega)))
  all_goals (first | (refine E.OW.off rfl rfl rfl ?_) | (refine E.OW.pure rfl rfl rfl (E.PV.fieldAddr fa114_0 rfl rfl) ?_))
  all_goals (first | (refine E.OW.off rfl rfl rfl ?_) | (refine E.OW.pure rfl rfl rfl (E.PV.load (i := 0) na3 rfl rfl rfl rfl) ?_))
  all_goals (first | (refine E.OW.off rfl rfl rfl ?_) | (refine E.OW.pure rfl rfl rfl (E.PV.leq rfl rfl rfl) ?_))
  all_goals (first | (refine E.OW.pure rfl rfl rfl (E.PV.pick_t rfl rfl rfl) ?_) | (refine E.OW.pure rfl rfl rfl (E.PV.pick_f rfl rfl rfl) ?_))
  all_goals (refine E.OW.pure rfl rfl rfl (E.PV.move rfl rfl) ?_)
  all_goals (first | (refine E.OW.put 11 (.bool false) (v := .bool false) rfl rfl ?_) | (refine E.OW.split 11 rfl (fun hc => ?_) (fun hc => ?_) <;> (try simp only [E.b0, E.b1, E.b2, E.b3, E.b4, E.b5, E.b6, E.b7, E.b8, E.b9, E.b10, E.b11, E.b12, E.b13, E.b14, E.b15, E.b16, E.b17, E.b18, E.b19, E.b20, reduceCtorEq] at hc) <;> (try (exfalso; first | assumption | contradiction | omega))))
  all_goals (first | (refine E.OW.off rfl rfl rfl ?_) | (refine E.OW.pure rfl rfl rfl (E.PV.fieldAddr fa114_1 rfl rfl) ?_))
  all_goals (first | (refine E.OW.off rfl rfl rfl ?_) | (refine E.OW.pure rfl rfl rfl (E.PV.load (i := 0) na3 rfl rfl rfl rfl) ?_))
  all_goals (first | (refine E.OW.off rfl rfl rfl ?_) | (refine E.OW.pure rfl rfl rfl (E.PV.geq rfl rfl rfl) ?_))
  all_goals (first | (refine E.OW.pure rfl rfl rfl (E.PV.pick_t rfl rfl rfl) ?_) | (refine E.OW.pure rfl rfl rfl (E.PV.pick_f rfl rfl rfl) ?_))
  all_goals (refine E.OW.pure rfl rfl rfl (E.PV.move rfl rfl) ?_)
  all_goals (first | (refine E.OW.put 16 (.bool false) (v := .bool false) rfl rfl ?_) | (refine E.OW.split 16 rfl (fun hc => ?_) (fun hc => ?_) <;> (try simp only [E.b0, E.b1, E.b2, E.b3, E.b4, E.b5, E.b6, E.b7, E.b8, E.b9, E.b10, E.b11, E.b12, E.b13, E.b14, E.b15, E.b16, E.b17, E.b18, E.b19, E.b20, reduceCtorEq] at hc) <;> (try (exfalso; first | assumption | contradiction | omega))))
  all_goals (first | (refine E.OW.off rfl rfl rfl ?_) | (refine E.OW.pure rfl rfl rfl (E.PV.fieldAddr fa114_1 rfl rfl) ?_))
  all_goals (first | (refine E.OW.off rfl rfl rfl ?_) | (refine E.OW.pure rfl rfl rfl (E.PV.load (i := 0) na3 rfl rfl rfl rfl) ?_))
  all_goals (first | (refine E.OW.off rfl rfl rfl ?_) | (refine E.OW.pure rfl rfl rfl (E.PV.leq rfl rfl rfl) ?_))
  all_goals (first | (refine E.OW.pure rfl rfl rfl (E.PV.pick_t rfl rfl rfl) ?_) | (refine E.OW.pure rfl rfl rfl (E.PV.pick_f rfl rfl rfl) ?_))
  all_goals (refine E.OW.pure rfl rfl rfl (E.PV.assign rfl rfl) ?_)
  all_goals (
    refine E.OW.nil ?_
    refine E.then_n ?_
    refine E.CW.ret ?_
    refine E.KR.one [] Try.results112 rfl rfl ?_
    exact ⟨by simp [Fl.valid, *] <;> omega, rfl⟩)

set_option maxRecDepth 100000 in
theorem size_ok (a b : Int) (hv : 2 ≤ a ∧ a ≤ 8 ∧ 2 ≤ b ∧ b ≤ 8) (w0 : World) :
    Calls Try.prog 113 #[.agg #[.int .i64 a, .int .i64 b]] w0 (E.Post w0 (E.Old w0) fun v Hn => v = .int .i64 (a * b) ∧ Hn = []) := by
  refine E.calls_of (vs := [.agg #[.int .i64 a, .int .i64 b]]) (H := []) Try.func113 Try.ntmps113 rfl rfl (E.HA.start w0) ?_
  refine E.CW.seq ?_
  refine E.CW.region ?_
  refine E.OW.box rfl rfl rfl rfl rfl rfl (fun B1 => ?_)
  refine E.OW.pure rfl rfl rfl (E.PV.assign rfl rfl) ?_
  refine E.OW.nil ?_
  refine E.then_n ?_
  refine E.CW.seq ?_
  refine E.CW.region ?_
  refine E.OW.pure rfl rfl rfl (E.PV.fieldAddr fa114_0 rfl rfl) ?_
  refine E.OW.pure rfl rfl rfl (E.PV.load (i := 0) na3 rfl rfl rfl rfl) ?_
  refine E.OW.pure rfl rfl rfl (E.PV.fieldAddr fa114_1 rfl rfl) ?_
  refine E.OW.pure rfl rfl rfl (E.PV.load (i := 0) na3 rfl rfl rfl rfl) ?_
  refine E.OW.pure rfl rfl rfl (E.PV.mul_i64 rfl rfl rfl ?_) ?_; (focus ((first | omega | (have := Fl.mulb (a := a) (b := b) (by omega) (by omega); omega))))
  refine E.OW.pure rfl rfl rfl (E.PV.assign rfl rfl) ?_
  refine E.OW.nil ?_
  refine E.then_n ?_
  refine E.CW.ret ?_
  refine E.KR.one [] Try.results113 rfl rfl ?_
  exact ⟨rfl, rfl⟩

set_option maxRecDepth 100000 in
theorem has_ok (a b p : Int) (w0 : World) :
    Calls Try.prog 85 #[.agg #[.int .i64 a, .int .i64 b], .int .i64 p] w0 (E.Post w0 (E.Old w0) fun v Hn => v = .bool (Fl.has a b p) ∧ Hn = []) := by
  refine E.calls_of (vs := [.agg #[.int .i64 a, .int .i64 b], .int .i64 p]) (H := []) Try.func85 Try.ntmps85 rfl rfl (E.HA.start w0) ?_
  refine E.CW.seq ?_
  refine E.CW.region ?_
  refine E.OW.box rfl rfl rfl rfl rfl rfl (fun B1 => ?_)
  refine E.OW.pure rfl rfl rfl (E.PV.assign rfl rfl) ?_
  refine E.OW.nil ?_
  refine E.then_n ?_
  refine E.CW.seq ?_
  refine E.CW.region ?_
  refine E.OW.pure rfl rfl rfl (E.PV.loads (i := 0) is114 rfl rfl rfl rfl) ?_
  (refine E.OW.call nm112 rfl rfl rfl rfl rfl rfl _ (fun w hw => valid_ok _ _ w) ?_; rintro _ _ ⟨rfl, rfl⟩)
  refine E.OW.pure rfl rfl rfl (E.PV.move rfl rfl) ?_
  all_goals (refine E.OW.split 7 rfl (fun hc => ?_) (fun hc => ?_) <;> (try simp only [E.b0, E.b1, E.b2, E.b3, E.b4, E.b5, E.b6, E.b7, E.b8, E.b9, E.b10, E.b11, E.b12, E.b13, E.b14, E.b15, E.b16, E.b17, E.b18, E.b19, E.b20, reduceCtorEq] at hc) <;> (try (exfalso; first | assumption | contradiction | omega)))
  all_goals (first | (refine E.OW.off rfl rfl rfl ?_) | (refine E.OW.pure rfl rfl rfl (E.PV.move rfl rfl) ?_))
  all_goals (first | (refine E.OW.off rfl rfl rfl ?_) | (refine E.OW.pure rfl rfl rfl (E.PV.loads (i := 0) is114 rfl rfl rfl rfl) ?_))
  all_goals (first | (refine E.OW.off rfl rfl rfl ?_) | ((refine E.OW.call nm113 rfl rfl rfl rfl rfl rfl _ (fun w hw => size_ok _ _ (Fl.valid_iff.1 (by assumption)) w) ?_; rintro _ _ ⟨rfl, rfl⟩)))
  all_goals (first | (refine E.OW.off rfl rfl rfl ?_) | ((refine E.OW.call nm115 rfl rfl rfl rfl rfl rfl _ (fun w hw => in_ok _ _ w) ?_; rintro _ _ ⟨rfl, rfl⟩)))
  all_goals (first | (refine E.OW.pure rfl rfl rfl (E.PV.pick_t rfl rfl rfl) ?_) | (refine E.OW.pure rfl rfl rfl (E.PV.pick_f rfl rfl rfl) ?_))
  all_goals (refine E.OW.pure rfl rfl rfl (E.PV.assign rfl rfl) ?_)
  all_goals (
    refine E.OW.nil ?_
    refine E.then_n ?_
    refine E.CW.ret ?_
    refine E.KR.one [] Try.results85 rfl rfl ?_
    exact ⟨by simp [Fl.has, *], rfl⟩)

set_option maxRecDepth 100000 in
theorem at_ok (a b x y : Int) (w0 : World) :
    Calls Try.prog 154 #[.agg #[.int .i64 a, .int .i64 b], .int .i64 x, .int .i64 y] w0 (E.Post w0 (E.Old w0) fun v Hn => v = .tuple #[.int .i64 (Fl.at_ a b x y).1, .bool (Fl.at_ a b x y).2] ∧ Hn = []) := by
  refine E.calls_of (vs := [.agg #[.int .i64 a, .int .i64 b], .int .i64 x, .int .i64 y]) (H := []) Try.func154 Try.ntmps154 rfl rfl (E.HA.start w0) ?_
  refine E.CW.seq ?_
  refine E.CW.region ?_
  refine E.OW.box rfl rfl rfl rfl rfl rfl (fun B1 => ?_)
  refine E.OW.pure rfl rfl rfl (E.PV.assign rfl rfl) ?_
  refine E.OW.pure rfl rfl rfl (E.PV.assign rfl rfl) ?_
  refine E.OW.nil ?_
  refine E.then_n ?_
  refine E.CW.seq ?_
  refine E.CW.seq ?_
  refine E.CW.region ?_
  refine E.OW.pure rfl rfl rfl (E.PV.loads (i := 0) is114 rfl rfl rfl rfl) ?_
  (refine E.OW.call nm112 rfl rfl rfl rfl rfl rfl _ (fun w hw => valid_ok _ _ w) ?_; rintro _ _ ⟨rfl, rfl⟩)
  refine E.OW.pure rfl rfl rfl (E.PV.not rfl rfl) ?_
  refine E.OW.pure rfl rfl rfl (E.PV.move rfl rfl) ?_
  all_goals (refine E.OW.split 11 rfl (fun hc => ?_) (fun hc => ?_) <;> (try simp only [E.b0, E.b1, E.b2, E.b3, E.b4, E.b5, E.b6, E.b7, E.b8, E.b9, E.b10, E.b11, E.b12, E.b13, E.b14, E.b15, E.b16, E.b17, E.b18, E.b19, E.b20, reduceCtorEq] at hc) <;> (try (exfalso; first | assumption | contradiction | omega)))
  all_goals (first | (refine E.OW.off rfl rfl rfl ?_) | (refine E.OW.pure rfl rfl rfl (E.PV.move rfl rfl) ?_))
  all_goals (first | (refine E.OW.off rfl rfl rfl ?_) | (refine E.OW.pure rfl rfl rfl (E.PV.fieldAddr fa114_0 rfl rfl) ?_))
  all_goals (first | (refine E.OW.off rfl rfl rfl ?_) | (refine E.OW.pure rfl rfl rfl (E.PV.load (i := 0) na3 rfl rfl rfl rfl) ?_))
  all_goals (first | (refine E.OW.off rfl rfl rfl ?_) | ((refine E.OW.call nm115 rfl rfl rfl rfl rfl rfl _ (fun w hw => in_ok _ _ w) ?_; rintro _ _ ⟨rfl, rfl⟩)))
  all_goals (first | (refine E.OW.off rfl rfl rfl ?_) | (refine E.OW.pure rfl rfl rfl (E.PV.not rfl rfl) ?_))
  all_goals (first | (refine E.OW.pure rfl rfl rfl (E.PV.pick_t rfl rfl rfl) ?_) | (refine E.OW.pure rfl rfl rfl (E.PV.pick_f rfl rfl rfl) ?_))
  all_goals (refine E.OW.pure rfl rfl rfl (E.PV.move rfl rfl) ?_)
  all_goals (first | (refine E.OW.put 18 (.bool true) (v := .bool true) rfl rfl ?_) | (refine E.OW.split 18 rfl (fun hc => ?_) (fun hc => ?_) <;> (try simp only [E.b0, E.b1, E.b2, E.b3, E.b4, E.b5, E.b6, E.b7, E.b8, E.b9, E.b10, E.b11, E.b12, E.b13, E.b14, E.b15, E.b16, E.b17, E.b18, E.b19, E.b20, reduceCtorEq] at hc) <;> (try (exfalso; first | assumption | contradiction | omega))))
  all_goals (first | (refine E.OW.off rfl rfl rfl ?_) | (refine E.OW.pure rfl rfl rfl (E.PV.move rfl rfl) ?_))
  all_goals (first | (refine E.OW.off rfl rfl rfl ?_) | (refine E.OW.pure rfl rfl rfl (E.PV.fieldAddr fa114_1 rfl rfl) ?_))
  all_goals (first | (refine E.OW.off rfl rfl rfl ?_) | (refine E.OW.pure rfl rfl rfl (E.PV.load (i := 0) na3 rfl rfl rfl rfl) ?_))
  all_goals (first | (refine E.OW.off rfl rfl rfl ?_) | ((refine E.OW.call nm115 rfl rfl rfl rfl rfl rfl _ (fun w hw => in_ok _ _ w) ?_; rintro _ _ ⟨rfl, rfl⟩)))
  all_goals (first | (refine E.OW.off rfl rfl rfl ?_) | (refine E.OW.pure rfl rfl rfl (E.PV.not rfl rfl) ?_))
  all_goals (first | (refine E.OW.pure rfl rfl rfl (E.PV.pick_t rfl rfl rfl) ?_) | (refine E.OW.pure rfl rfl rfl (E.PV.pick_f rfl rfl rfl) ?_))
  all_goals (
    refine E.OW.nil ?_
    refine E.then_n ?_
    refine E.CW.cond rfl (fun hc => ?_) (fun hc => ?_)
    · simp only [E.b0, E.b1, E.b2, E.b3, E.b4, E.b5, E.b6, E.b7, E.b8, E.b9, E.b10, E.b11, E.b12, E.b13, E.b14, E.b15, E.b16, E.b17, E.b18, E.b19, E.b20, reduceCtorEq] at hc
      all_goals (
        refine E.CW.seq ?_
        refine E.CW.region ?_
        refine E.OW.pure rfl rfl rfl (E.PV.assign rfl rfl) ?_
        refine E.OW.pure rfl rfl rfl (E.PV.assign rfl rfl) ?_
        refine E.OW.nil ?_
        refine E.then_n ?_
        refine E.CW.ret ?_
        refine E.then_ret ?_
        refine E.KR.two [] Try.results154 rfl rfl rfl ?_
        exact ⟨by simp [Fl.at_, *], rfl⟩)
    · first | ((cases hc; done)) | (simp only [E.b0, E.b1, E.b2, E.b3, E.b4, E.b5, E.b6, E.b7, E.b8, E.b9, E.b10, E.b11, E.b12, E.b13, E.b14, E.b15, E.b16, E.b17, E.b18, E.b19, E.b20, reduceCtorEq] at hc)
      all_goals (
        refine E.CW.skip ?_
        refine E.then_n ?_
        refine E.CW.seq ?_
        have hv := Fl.valid_iff.1 (show Fl.valid a b = true by assumption)
        have hx := Fl.inB_iff.1 (show Fl.inB x a = true by assumption)
        have hy := Fl.inB_iff.1 (show Fl.inB y b = true by assumption)
        have hm := Fl.mulb (a := y) (b := a) (by omega) (by omega)
        refine E.CW.region ?_
        refine E.OW.pure rfl rfl rfl (E.PV.move rfl rfl) ?_
        refine E.OW.pure rfl rfl rfl (E.PV.fieldAddr fa114_0 rfl rfl) ?_
        refine E.OW.pure rfl rfl rfl (E.PV.load (i := 0) na3 rfl rfl rfl rfl) ?_
        refine E.OW.pure rfl rfl rfl (E.PV.mul_i64 rfl rfl rfl ?_) ?_; (focus (omega))
        refine E.OW.pure rfl rfl rfl (E.PV.move rfl rfl) ?_
        refine E.OW.pure rfl rfl rfl (E.PV.add_i64 rfl rfl rfl ?_) ?_; (focus (omega))
        refine E.OW.pure rfl rfl rfl (E.PV.assign rfl rfl) ?_
        refine E.OW.pure rfl rfl rfl (E.PV.assign rfl rfl) ?_
        refine E.OW.nil ?_
        refine E.then_n ?_
        refine E.CW.ret ?_
        refine E.KR.two [] Try.results154 rfl rfl rfl ?_
        exact ⟨by simp [Fl.at_, *], rfl⟩))

set_option maxRecDepth 100000 in
theorem moved_ok (a b p d : Int) (hv : 2 ≤ a ∧ a ≤ 8 ∧ 2 ≤ b ∧ b ≤ 8) (hp : 0 ≤ p ∧ p < a * b) (hd : 0 ≤ d ∧ d < 4) (w0 : World) :
    Calls Try.prog 148 #[.agg #[.int .i64 a, .int .i64 b], .int .i64 p, .int .i64 d] w0 (E.Post w0 (E.Old w0) fun v Hn => v = .tuple #[.int .i64 (Fl.moved a b p d).1, .bool (Fl.moved a b p d).2] ∧ Hn = []) := by
  have hb := Fl.div_b hv hp
  have hm := Fl.mulb (a := a) (b := b) (by omega) (by omega)
  have h4 : d = 0 ∨ d = 1 ∨ d = 2 ∨ d = 3 := by omega
  rcases h4 with h4 | h4 | h4 | h4
  all_goals (
    refine E.calls_of (vs := [.agg #[.int .i64 a, .int .i64 b], .int .i64 p, .int .i64 d]) (H := []) Try.func148 Try.ntmps148 rfl rfl (E.HA.start w0) ?_
    refine E.CW.seq ?_
    refine E.CW.region ?_
    refine E.OW.box rfl rfl rfl rfl rfl rfl (fun B1 => ?_)
    refine E.OW.pure rfl rfl rfl (E.PV.assign rfl rfl) ?_
    refine E.OW.pure rfl rfl rfl (E.PV.assign rfl rfl) ?_
    refine E.OW.nil ?_
    refine E.then_n ?_
    refine E.CW.seq ?_
    refine E.CW.draw mixed (by kernel_rfl) ?_
    refine E.QW.pure rfl rfl rfl (E.PV.move rfl rfl) ?_
    refine E.QW.pure rfl rfl rfl (E.PV.fieldAddr fa114_0 rfl rfl) ?_
    refine E.QW.pure rfl rfl rfl (E.PV.load (i := 0) na3 rfl rfl rfl rfl) ?_
    refine E.QW.pure rfl rfl rfl (E.PV.rem_i64 rfl rfl rfl ?_ ?_) ?_; (focus (omega)); (focus (omega))
    refine E.QW.pure rfl rfl rfl (E.PV.move rfl rfl) ?_
    refine E.QW.pure rfl rfl rfl (E.PV.fieldAddr fa114_0 rfl rfl) ?_
    refine E.QW.pure rfl rfl rfl (E.PV.load (i := 0) na3 rfl rfl rfl rfl) ?_
    refine E.QW.pure rfl rfl rfl (E.PV.quo_i64 rfl rfl rfl ?_ ?_) ?_; (focus (omega)); (focus (omega))
    refine E.QW.pure rfl rfl rfl (E.PV.assign rfl rfl) ?_
    refine E.QW.pure rfl rfl rfl (E.PV.assign rfl rfl) ?_
    refine E.QW.nil ?_
    refine E.then_n ?_
    refine E.CW.seq ?_
    refine E.CW.seq ?_
    refine E.CW.region ?_
    refine E.OW.pure rfl rfl rfl (E.PV.move rfl rfl) ?_
    refine E.OW.nil ?_
    refine E.then_n ?_
    refine E.CW.block ?_
    refine E.CW.seq ?_
    refine E.CW.region ?_
    refine E.OW.pure rfl rfl rfl (E.PV.eql rfl rfl rfl) ?_
    refine E.OW.pure rfl rfl rfl (E.PV.assign rfl rfl) ?_
    refine E.OW.nil ?_
    refine E.then_n ?_
    refine E.CW.cond rfl (fun hc => ?_) (fun hc => ?_)
    · simp only [E.b0, E.b1, E.b2, E.b3, E.b4, E.b5, E.b6, E.b7, E.b8, E.b9, E.b10, E.b11, E.b12, E.b13, E.b14, E.b15, E.b16, E.b17, E.b18, E.b19, E.b20, reduceCtorEq] at hc
      all_goals (try (exfalso; omega))
      all_goals (
        refine E.CW.region ?_
        refine E.OW.pure rfl rfl rfl (E.PV.move rfl rfl) ?_
        refine E.OW.pure rfl rfl rfl (E.PV.sub_i64 rfl rfl rfl ?_) ?_; (focus (omega))
        refine E.OW.pure rfl rfl rfl (E.PV.assign rfl rfl) ?_
        refine E.OW.nil ?_
        refine E.blk_n ?_
        refine E.then_n ?_
        refine E.CW.seq ?_
        refine E.CW.region ?_
        refine E.OW.pure rfl rfl rfl (E.PV.loads (i := 0) is114 rfl rfl rfl rfl) ?_
        refine E.OW.pure rfl rfl rfl (E.PV.move rfl rfl) ?_
        refine E.OW.pure rfl rfl rfl (E.PV.move rfl rfl) ?_
        (refine E.OW.call nm154 rfl rfl rfl rfl rfl rfl _ (fun w hw => at_ok _ _ _ _ w) ?_; rintro _ _ ⟨rfl, rfl⟩)
        refine E.OW.pure rfl rfl rfl (E.PV.extract rfl rfl rfl) ?_
        refine E.OW.pure rfl rfl rfl (E.PV.extract rfl rfl rfl) ?_
        refine E.OW.pure rfl rfl rfl (E.PV.assign rfl rfl) ?_
        refine E.OW.pure rfl rfl rfl (E.PV.assign rfl rfl) ?_
        refine E.OW.nil ?_
        refine E.then_n ?_
        refine E.CW.ret ?_
        refine E.KR.two [] Try.results148 rfl rfl rfl ?_
        exact ⟨by simp [Fl.moved, Fl.dx, Fl.dy, Int.sub_eq_add_neg, h4], rfl⟩)
    · simp only [E.b0, E.b1, E.b2, E.b3, E.b4, E.b5, E.b6, E.b7, E.b8, E.b9, E.b10, E.b11, E.b12, E.b13, E.b14, E.b15, E.b16, E.b17, E.b18, E.b19, E.b20, reduceCtorEq] at hc
      all_goals (try (exfalso; contradiction))
      all_goals (
        refine E.CW.seq ?_
        refine E.CW.region ?_
        refine E.OW.pure rfl rfl rfl (E.PV.eql rfl rfl rfl) ?_
        refine E.OW.pure rfl rfl rfl (E.PV.assign rfl rfl) ?_
        refine E.OW.nil ?_
        refine E.then_n ?_
        refine E.CW.cond rfl (fun hc => ?_) (fun hc => ?_)
        · simp only [E.b0, E.b1, E.b2, E.b3, E.b4, E.b5, E.b6, E.b7, E.b8, E.b9, E.b10, E.b11, E.b12, E.b13, E.b14, E.b15, E.b16, E.b17, E.b18, E.b19, E.b20, reduceCtorEq] at hc
          all_goals (try (exfalso; omega))
          all_goals (
            refine E.CW.region ?_
            refine E.OW.pure rfl rfl rfl (E.PV.move rfl rfl) ?_
            refine E.OW.pure rfl rfl rfl (E.PV.add_i64 rfl rfl rfl ?_) ?_; (focus (omega))
            refine E.OW.pure rfl rfl rfl (E.PV.assign rfl rfl) ?_
            refine E.OW.nil ?_
            refine E.blk_n ?_
            refine E.then_n ?_
            refine E.CW.seq ?_
            refine E.CW.region ?_
            refine E.OW.pure rfl rfl rfl (E.PV.loads (i := 0) is114 rfl rfl rfl rfl) ?_
            refine E.OW.pure rfl rfl rfl (E.PV.move rfl rfl) ?_
            refine E.OW.pure rfl rfl rfl (E.PV.move rfl rfl) ?_
            (refine E.OW.call nm154 rfl rfl rfl rfl rfl rfl _ (fun w hw => at_ok _ _ _ _ w) ?_; rintro _ _ ⟨rfl, rfl⟩)
            refine E.OW.pure rfl rfl rfl (E.PV.extract rfl rfl rfl) ?_
            refine E.OW.pure rfl rfl rfl (E.PV.extract rfl rfl rfl) ?_
            refine E.OW.pure rfl rfl rfl (E.PV.assign rfl rfl) ?_
            refine E.OW.pure rfl rfl rfl (E.PV.assign rfl rfl) ?_
            refine E.OW.nil ?_
            refine E.then_n ?_
            refine E.CW.ret ?_
            refine E.KR.two [] Try.results148 rfl rfl rfl ?_
            exact ⟨by simp [Fl.moved, Fl.dx, Fl.dy, Int.sub_eq_add_neg, h4], rfl⟩)
        · simp only [E.b0, E.b1, E.b2, E.b3, E.b4, E.b5, E.b6, E.b7, E.b8, E.b9, E.b10, E.b11, E.b12, E.b13, E.b14, E.b15, E.b16, E.b17, E.b18, E.b19, E.b20, reduceCtorEq] at hc
          all_goals (try (exfalso; contradiction))
          all_goals (
            refine E.CW.seq ?_
            refine E.CW.region ?_
            refine E.OW.pure rfl rfl rfl (E.PV.eql rfl rfl rfl) ?_
            refine E.OW.pure rfl rfl rfl (E.PV.assign rfl rfl) ?_
            refine E.OW.nil ?_
            refine E.then_n ?_
            refine E.CW.cond rfl (fun hc => ?_) (fun hc => ?_)
            · simp only [E.b0, E.b1, E.b2, E.b3, E.b4, E.b5, E.b6, E.b7, E.b8, E.b9, E.b10, E.b11, E.b12, E.b13, E.b14, E.b15, E.b16, E.b17, E.b18, E.b19, E.b20, reduceCtorEq] at hc
              all_goals (try (exfalso; omega))
              all_goals (
                refine E.CW.region ?_
                refine E.OW.pure rfl rfl rfl (E.PV.move rfl rfl) ?_
                refine E.OW.pure rfl rfl rfl (E.PV.add_i64 rfl rfl rfl ?_) ?_; (focus (omega))
                refine E.OW.pure rfl rfl rfl (E.PV.assign rfl rfl) ?_
                refine E.OW.nil ?_
                refine E.blk_n ?_
                refine E.then_n ?_
                refine E.CW.seq ?_
                refine E.CW.region ?_
                refine E.OW.pure rfl rfl rfl (E.PV.loads (i := 0) is114 rfl rfl rfl rfl) ?_
                refine E.OW.pure rfl rfl rfl (E.PV.move rfl rfl) ?_
                refine E.OW.pure rfl rfl rfl (E.PV.move rfl rfl) ?_
                (refine E.OW.call nm154 rfl rfl rfl rfl rfl rfl _ (fun w hw => at_ok _ _ _ _ w) ?_; rintro _ _ ⟨rfl, rfl⟩)
                refine E.OW.pure rfl rfl rfl (E.PV.extract rfl rfl rfl) ?_
                refine E.OW.pure rfl rfl rfl (E.PV.extract rfl rfl rfl) ?_
                refine E.OW.pure rfl rfl rfl (E.PV.assign rfl rfl) ?_
                refine E.OW.pure rfl rfl rfl (E.PV.assign rfl rfl) ?_
                refine E.OW.nil ?_
                refine E.then_n ?_
                refine E.CW.ret ?_
                refine E.KR.two [] Try.results148 rfl rfl rfl ?_
                exact ⟨by simp [Fl.moved, Fl.dx, Fl.dy, Int.sub_eq_add_neg, h4], rfl⟩)
            · simp only [E.b0, E.b1, E.b2, E.b3, E.b4, E.b5, E.b6, E.b7, E.b8, E.b9, E.b10, E.b11, E.b12, E.b13, E.b14, E.b15, E.b16, E.b17, E.b18, E.b19, E.b20, reduceCtorEq] at hc
              all_goals (try (exfalso; contradiction))
              all_goals (
                refine E.CW.seq ?_
                refine E.CW.region ?_
                refine E.OW.pure rfl rfl rfl (E.PV.eql rfl rfl rfl) ?_
                refine E.OW.pure rfl rfl rfl (E.PV.assign rfl rfl) ?_
                refine E.OW.nil ?_
                refine E.then_n ?_
                refine E.CW.cond rfl (fun hc => ?_) (fun hc => ?_)
                · simp only [E.b0, E.b1, E.b2, E.b3, E.b4, E.b5, E.b6, E.b7, E.b8, E.b9, E.b10, E.b11, E.b12, E.b13, E.b14, E.b15, E.b16, E.b17, E.b18, E.b19, E.b20, reduceCtorEq] at hc
                  all_goals (
                    refine E.CW.region ?_
                    refine E.OW.pure rfl rfl rfl (E.PV.move rfl rfl) ?_
                    refine E.OW.pure rfl rfl rfl (E.PV.sub_i64 rfl rfl rfl ?_) ?_; (focus (omega))
                    refine E.OW.pure rfl rfl rfl (E.PV.assign rfl rfl) ?_
                    refine E.OW.nil ?_
                    refine E.blk_n ?_
                    refine E.then_n ?_
                    refine E.CW.seq ?_
                    refine E.CW.region ?_
                    refine E.OW.pure rfl rfl rfl (E.PV.loads (i := 0) is114 rfl rfl rfl rfl) ?_
                    refine E.OW.pure rfl rfl rfl (E.PV.move rfl rfl) ?_
                    refine E.OW.pure rfl rfl rfl (E.PV.move rfl rfl) ?_
                    (refine E.OW.call nm154 rfl rfl rfl rfl rfl rfl _ (fun w hw => at_ok _ _ _ _ w) ?_; rintro _ _ ⟨rfl, rfl⟩)
                    refine E.OW.pure rfl rfl rfl (E.PV.extract rfl rfl rfl) ?_
                    refine E.OW.pure rfl rfl rfl (E.PV.extract rfl rfl rfl) ?_
                    refine E.OW.pure rfl rfl rfl (E.PV.assign rfl rfl) ?_
                    refine E.OW.pure rfl rfl rfl (E.PV.assign rfl rfl) ?_
                    refine E.OW.nil ?_
                    refine E.then_n ?_
                    refine E.CW.ret ?_
                    refine E.KR.two [] Try.results148 rfl rfl rfl ?_
                    exact ⟨by simp [Fl.moved, Fl.dx, Fl.dy, Int.sub_eq_add_neg, h4], rfl⟩)
                · simp only [E.b0, E.b1, E.b2, E.b3, E.b4, E.b5, E.b6, E.b7, E.b8, E.b9, E.b10, E.b11, E.b12, E.b13, E.b14, E.b15, E.b16, E.b17, E.b18, E.b19, E.b20, reduceCtorEq] at hc
                  all_goals (exfalso; contradiction)))))

set_option maxRecDepth 100000 in
theorem apart_ok (a b p q : Int) (hv : 2 ≤ a ∧ a ≤ 8 ∧ 2 ≤ b ∧ b ≤ 8) (hp : 0 ≤ p ∧ p < a * b) (hq : 0 ≤ q ∧ q < a * b) (w0 : World) :
    Calls Try.prog 92 #[.agg #[.int .i64 a, .int .i64 b], .int .i64 p, .int .i64 q] w0 (E.Post w0 (E.Old w0) fun v Hn => v = .int .i64 (Fl.dist a p q) ∧ Hn = []) := by
  have hb := Fl.div_b hv hp
  have hb2 := Fl.div_b hv hq
  have hm := Fl.mulb (a := a) (b := b) (by omega) (by omega)
  refine E.calls_of (vs := [.agg #[.int .i64 a, .int .i64 b], .int .i64 p, .int .i64 q]) (H := []) Try.func92 Try.ntmps92 rfl rfl (E.HA.start w0) ?_
  refine E.CW.seq ?_
  refine E.CW.region ?_
  refine E.OW.box rfl rfl rfl rfl rfl rfl (fun B1 => ?_)
  refine E.OW.pure rfl rfl rfl (E.PV.assign rfl rfl) ?_
  refine E.OW.nil ?_
  refine E.then_n ?_
  refine E.CW.seq ?_
  refine E.CW.draw mixed (by kernel_rfl) ?_
  refine E.QW.pure rfl rfl rfl (E.PV.move rfl rfl) ?_
  refine E.QW.pure rfl rfl rfl (E.PV.fieldAddr fa114_0 rfl rfl) ?_
  refine E.QW.pure rfl rfl rfl (E.PV.load (i := 0) na3 rfl rfl rfl rfl) ?_
  refine E.QW.pure rfl rfl rfl (E.PV.rem_i64 rfl rfl rfl ?_ ?_) ?_; (focus (omega)); (focus (omega))
  refine E.QW.pure rfl rfl rfl (E.PV.move rfl rfl) ?_
  refine E.QW.pure rfl rfl rfl (E.PV.fieldAddr fa114_0 rfl rfl) ?_
  refine E.QW.pure rfl rfl rfl (E.PV.load (i := 0) na3 rfl rfl rfl rfl) ?_
  refine E.QW.pure rfl rfl rfl (E.PV.rem_i64 rfl rfl rfl ?_ ?_) ?_; (focus (omega)); (focus (omega))
  refine E.QW.pure rfl rfl rfl (E.PV.sub_i64 rfl rfl rfl ?_) ?_; (focus ((first | omega | (split <;> split <;> omega))))
  refine E.QW.pure rfl rfl rfl (E.PV.move rfl rfl) ?_
  refine E.QW.pure rfl rfl rfl (E.PV.fieldAddr fa114_0 rfl rfl) ?_
  refine E.QW.pure rfl rfl rfl (E.PV.load (i := 0) na3 rfl rfl rfl rfl) ?_
  refine E.QW.pure rfl rfl rfl (E.PV.quo_i64 rfl rfl rfl ?_ ?_) ?_; (focus (omega)); (focus (omega))
  refine E.QW.pure rfl rfl rfl (E.PV.move rfl rfl) ?_
  refine E.QW.pure rfl rfl rfl (E.PV.fieldAddr fa114_0 rfl rfl) ?_
  refine E.QW.pure rfl rfl rfl (E.PV.load (i := 0) na3 rfl rfl rfl rfl) ?_
  refine E.QW.pure rfl rfl rfl (E.PV.quo_i64 rfl rfl rfl ?_ ?_) ?_; (focus (omega)); (focus (omega))
  refine E.QW.pure rfl rfl rfl (E.PV.sub_i64 rfl rfl rfl ?_) ?_; (focus ((first | omega | (split <;> split <;> omega))))
  refine E.QW.pure rfl rfl rfl (E.PV.assign rfl rfl) ?_
  refine E.QW.pure rfl rfl rfl (E.PV.assign rfl rfl) ?_
  refine E.QW.nil ?_
  refine E.then_n ?_
  refine E.CW.seq ?_
  refine E.CW.region ?_
  refine E.OW.pure rfl rfl rfl (E.PV.move rfl rfl) ?_
  refine E.OW.pure rfl rfl rfl (E.PV.move rfl rfl) ?_
  refine E.OW.pure rfl rfl rfl (E.PV.neg rfl rfl ?_) ?_; (focus (omega))
  refine E.OW.pure rfl rfl rfl (E.PV.max rfl rfl rfl) ?_
  refine E.OW.pure rfl rfl rfl (E.PV.move rfl rfl) ?_
  refine E.OW.pure rfl rfl rfl (E.PV.move rfl rfl) ?_
  refine E.OW.pure rfl rfl rfl (E.PV.neg rfl rfl ?_) ?_; (focus (omega))
  refine E.OW.pure rfl rfl rfl (E.PV.max rfl rfl rfl) ?_
  refine E.OW.pure rfl rfl rfl (E.PV.add_i64 rfl rfl rfl ?_) ?_; (focus ((first | omega | (split <;> split <;> omega))))
  refine E.OW.pure rfl rfl rfl (E.PV.assign rfl rfl) ?_
  refine E.OW.nil ?_
  refine E.then_n ?_
  refine E.CW.ret ?_
  refine E.KR.one [] Try.results92 rfl rfl ?_
  exact ⟨rfl, rfl⟩

set_option maxRecDepth 100000 in
theorem Step_ok (a b p d : Int) (w0 : World) :
    Calls Try.prog 127 #[.int .i64 a, .int .i64 b, .int .i64 p, .int .i64 d] w0 (E.Post w0 (E.Old w0) fun v Hn => v = .tuple #[.int .i64 (Fl.step a b p d).1, .int .i64 (Fl.step a b p d).2] ∧ Hn = []) := by
  refine E.calls_of (vs := [.int .i64 a, .int .i64 b, .int .i64 p, .int .i64 d]) (H := []) Try.func127 Try.ntmps127 rfl rfl (E.HA.start w0) ?_
  refine E.CW.seq ?_
  refine E.CW.region ?_
  refine E.OW.pure rfl rfl rfl (E.PV.assign rfl rfl) ?_
  refine E.OW.pure rfl rfl rfl (E.PV.assign rfl rfl) ?_
  refine E.OW.nil ?_
  refine E.then_n ?_
  refine E.CW.seq ?_
  refine E.CW.region ?_
  refine E.OW.pure rfl rfl rfl (E.PV.move rfl rfl) ?_
  refine E.OW.pure rfl rfl rfl (E.PV.move rfl rfl) ?_
  refine E.OW.pure rfl rfl rfl (E.PV.build (ps := [(0, .tmp 13), (1, .tmp 14)]) rfl rfl (fun w => bld114_0_1 _ _ w)) ?_
  refine E.OW.alloc (in114.zr) rfl rfl rfl rfl rfl (fun B1 => ?_)
  refine E.OW.store (i := 0) in114.size rfl rfl rfl rfl rfl rfl rfl rfl rfl ?_
  refine E.OW.nil ?_
  refine E.then_n ?_
  refine E.CW.seq ?_
  refine E.CW.seq ?_
  refine E.CW.region ?_
  refine E.OW.pure rfl rfl rfl (E.PV.loads (i := 0) is114 rfl rfl rfl rfl) ?_
  refine E.OW.pure rfl rfl rfl (E.PV.move rfl rfl) ?_
  (refine E.OW.call nm85 rfl rfl rfl rfl rfl rfl _ (fun w hw => has_ok _ _ _ w) ?_; rintro _ _ ⟨rfl, rfl⟩)
  refine E.OW.pure rfl rfl rfl (E.PV.not rfl rfl) ?_
  refine E.OW.pure rfl rfl rfl (E.PV.move rfl rfl) ?_
  all_goals (refine E.OW.split 20 rfl (fun hc => ?_) (fun hc => ?_) <;> (try simp only [E.b0, E.b1, E.b2, E.b3, E.b4, E.b5, E.b6, E.b7, E.b8, E.b9, E.b10, E.b11, E.b12, E.b13, E.b14, E.b15, E.b16, E.b17, E.b18, E.b19, E.b20, reduceCtorEq] at hc) <;> (try (exfalso; first | assumption | contradiction | omega)))
  all_goals (first | (refine E.OW.off rfl rfl rfl ?_) | (refine E.OW.pure rfl rfl rfl (E.PV.move rfl rfl) ?_))
  all_goals (first | (refine E.OW.off rfl rfl rfl ?_) | ((refine E.OW.call nm115 rfl rfl rfl rfl rfl rfl _ (fun w hw => in_ok _ _ w) ?_; rintro _ _ ⟨rfl, rfl⟩)))
  all_goals (first | (refine E.OW.off rfl rfl rfl ?_) | (refine E.OW.pure rfl rfl rfl (E.PV.not rfl rfl) ?_))
  all_goals (first | (refine E.OW.pure rfl rfl rfl (E.PV.pick_t rfl rfl rfl) ?_) | (refine E.OW.pure rfl rfl rfl (E.PV.pick_f rfl rfl rfl) ?_))
  all_goals (
    refine E.OW.nil ?_
    refine E.then_n ?_
    refine E.CW.cond rfl (fun hc => ?_) (fun hc => ?_)
    · simp only [E.b0, E.b1, E.b2, E.b3, E.b4, E.b5, E.b6, E.b7, E.b8, E.b9, E.b10, E.b11, E.b12, E.b13, E.b14, E.b15, E.b16, E.b17, E.b18, E.b19, E.b20, reduceCtorEq] at hc
      all_goals (
        refine E.CW.seq ?_
        refine E.CW.region ?_
        refine E.OW.pure rfl rfl rfl (E.PV.assign rfl rfl) ?_
        refine E.OW.pure rfl rfl rfl (E.PV.assign rfl rfl) ?_
        refine E.OW.nil ?_
        refine E.then_n ?_
        refine E.CW.ret ?_
        refine E.then_ret ?_
        refine E.KR.two [] Try.results127 rfl rfl rfl ?_
        exact ⟨by simp [Fl.step, *], rfl⟩)
    · first | ((cases hc; done)) | (simp only [E.b0, E.b1, E.b2, E.b3, E.b4, E.b5, E.b6, E.b7, E.b8, E.b9, E.b10, E.b11, E.b12, E.b13, E.b14, E.b15, E.b16, E.b17, E.b18, E.b19, E.b20, reduceCtorEq] at hc)
      all_goals (
        refine E.CW.skip ?_
        refine E.then_n ?_
        refine E.CW.seq ?_
        refine E.CW.region ?_
        refine E.OW.pure rfl rfl rfl (E.PV.loads (i := 0) is114 rfl rfl rfl rfl) ?_
        refine E.OW.pure rfl rfl rfl (E.PV.move rfl rfl) ?_
        refine E.OW.pure rfl rfl rfl (E.PV.move rfl rfl) ?_
        (refine E.OW.call nm148 rfl rfl rfl rfl rfl rfl _ (fun w hw => moved_ok _ _ _ _ (Fl.has_iff.1 (by assumption)).1 (Fl.has_iff.1 (by assumption)).2 (Fl.inB_iff.1 (by assumption)) w) ?_; rintro _ _ ⟨rfl, rfl⟩)
        refine E.OW.pure rfl rfl rfl (E.PV.move rfl rfl) ?_
        refine E.OW.pure rfl rfl rfl (E.PV.extract rfl rfl rfl) ?_
        refine E.OW.pure rfl rfl rfl (E.PV.extract rfl rfl rfl) ?_
        refine E.OW.pure rfl rfl rfl (E.PV.assign rfl rfl) ?_
        refine E.OW.pure rfl rfl rfl (E.PV.assign rfl rfl) ?_
        refine E.OW.nil ?_
        refine E.then_n ?_
        refine E.CW.seq ?_
        refine E.CW.seq ?_
        refine E.CW.region ?_
        refine E.OW.pure rfl rfl rfl (E.PV.move rfl rfl) ?_
        refine E.OW.pure rfl rfl rfl (E.PV.not rfl rfl) ?_
        refine E.OW.nil ?_
        refine E.then_n ?_
        refine E.CW.cond rfl (fun hc => ?_) (fun hc => ?_)
        · simp only [E.b0, E.b1, E.b2, E.b3, E.b4, E.b5, E.b6, E.b7, E.b8, E.b9, E.b10, E.b11, E.b12, E.b13, E.b14, E.b15, E.b16, E.b17, E.b18, E.b19, E.b20, reduceCtorEq] at hc
          all_goals (
            refine E.CW.seq ?_
            refine E.CW.region ?_
            refine E.OW.pure rfl rfl rfl (E.PV.assign rfl rfl) ?_
            refine E.OW.pure rfl rfl rfl (E.PV.assign rfl rfl) ?_
            refine E.OW.nil ?_
            refine E.then_n ?_
            refine E.CW.ret ?_
            refine E.then_ret ?_
            refine E.KR.two [] Try.results127 rfl rfl rfl ?_
            exact ⟨by simp [Fl.step, *], rfl⟩)
        · simp only [E.b0, E.b1, E.b2, E.b3, E.b4, E.b5, E.b6, E.b7, E.b8, E.b9, E.b10, E.b11, E.b12, E.b13, E.b14, E.b15, E.b16, E.b17, E.b18, E.b19, E.b20, reduceCtorEq] at hc
          all_goals (
            refine E.CW.skip ?_
            refine E.then_n ?_
            refine E.CW.seq ?_
            refine E.CW.region ?_
            refine E.OW.pure rfl rfl rfl (E.PV.move rfl rfl) ?_
            refine E.OW.pure rfl rfl rfl (E.PV.assign rfl rfl) ?_
            refine E.OW.pure rfl rfl rfl (E.PV.assign rfl rfl) ?_
            refine E.OW.nil ?_
            refine E.then_n ?_
            refine E.CW.ret ?_
            refine E.KR.two [] Try.results127 rfl rfl rfl ?_
            exact ⟨by simp [Fl.step, *], rfl⟩)))

set_option maxRecDepth 100000 in
theorem Distance_ok (a b p q : Int) (w0 : World) :
    Calls Try.prog 48 #[.int .i64 a, .int .i64 b, .int .i64 p, .int .i64 q] w0 (E.Post w0 (E.Old w0) fun v Hn => v = .tuple #[.int .i64 (Fl.distance a b p q).1, .int .i64 (Fl.distance a b p q).2] ∧ Hn = []) := by
  refine E.calls_of (vs := [.int .i64 a, .int .i64 b, .int .i64 p, .int .i64 q]) (H := []) Try.func48 Try.ntmps48 rfl rfl (E.HA.start w0) ?_
  refine E.CW.seq ?_
  refine E.CW.region ?_
  refine E.OW.pure rfl rfl rfl (E.PV.assign rfl rfl) ?_
  refine E.OW.pure rfl rfl rfl (E.PV.assign rfl rfl) ?_
  refine E.OW.nil ?_
  refine E.then_n ?_
  refine E.CW.seq ?_
  refine E.CW.region ?_
  refine E.OW.pure rfl rfl rfl (E.PV.move rfl rfl) ?_
  refine E.OW.pure rfl rfl rfl (E.PV.move rfl rfl) ?_
  refine E.OW.pure rfl rfl rfl (E.PV.build (ps := [(0, .tmp 11), (1, .tmp 12)]) rfl rfl (fun w => bld114_0_1 _ _ w)) ?_
  refine E.OW.alloc (in114.zr) rfl rfl rfl rfl rfl (fun B1 => ?_)
  refine E.OW.store (i := 0) in114.size rfl rfl rfl rfl rfl rfl rfl rfl rfl ?_
  refine E.OW.nil ?_
  refine E.then_n ?_
  refine E.CW.seq ?_
  refine E.CW.seq ?_
  refine E.CW.region ?_
  refine E.OW.pure rfl rfl rfl (E.PV.loads (i := 0) is114 rfl rfl rfl rfl) ?_
  refine E.OW.pure rfl rfl rfl (E.PV.move rfl rfl) ?_
  (refine E.OW.call nm85 rfl rfl rfl rfl rfl rfl _ (fun w hw => has_ok _ _ _ w) ?_; rintro _ _ ⟨rfl, rfl⟩)
  refine E.OW.pure rfl rfl rfl (E.PV.not rfl rfl) ?_
  refine E.OW.pure rfl rfl rfl (E.PV.move rfl rfl) ?_
  all_goals (refine E.OW.split 18 rfl (fun hc => ?_) (fun hc => ?_) <;> (try simp only [E.b0, E.b1, E.b2, E.b3, E.b4, E.b5, E.b6, E.b7, E.b8, E.b9, E.b10, E.b11, E.b12, E.b13, E.b14, E.b15, E.b16, E.b17, E.b18, E.b19, E.b20, reduceCtorEq] at hc) <;> (try (exfalso; first | assumption | contradiction | omega)))
  all_goals (first | (refine E.OW.off rfl rfl rfl ?_) | (refine E.OW.pure rfl rfl rfl (E.PV.loads (i := 0) is114 rfl rfl rfl rfl) ?_))
  all_goals (first | (refine E.OW.off rfl rfl rfl ?_) | (refine E.OW.pure rfl rfl rfl (E.PV.move rfl rfl) ?_))
  all_goals (first | (refine E.OW.off rfl rfl rfl ?_) | ((refine E.OW.call nm85 rfl rfl rfl rfl rfl rfl _ (fun w hw => has_ok _ _ _ w) ?_; rintro _ _ ⟨rfl, rfl⟩)))
  all_goals (first | (refine E.OW.off rfl rfl rfl ?_) | (refine E.OW.pure rfl rfl rfl (E.PV.not rfl rfl) ?_))
  all_goals (first | (refine E.OW.pure rfl rfl rfl (E.PV.pick_t rfl rfl rfl) ?_) | (refine E.OW.pure rfl rfl rfl (E.PV.pick_f rfl rfl rfl) ?_))
  all_goals (
    refine E.OW.nil ?_
    refine E.then_n ?_
    refine E.CW.cond rfl (fun hc => ?_) (fun hc => ?_)
    · simp only [E.b0, E.b1, E.b2, E.b3, E.b4, E.b5, E.b6, E.b7, E.b8, E.b9, E.b10, E.b11, E.b12, E.b13, E.b14, E.b15, E.b16, E.b17, E.b18, E.b19, E.b20, reduceCtorEq] at hc
      all_goals (
        refine E.CW.seq ?_
        refine E.CW.region ?_
        refine E.OW.pure rfl rfl rfl (E.PV.assign rfl rfl) ?_
        refine E.OW.pure rfl rfl rfl (E.PV.assign rfl rfl) ?_
        refine E.OW.nil ?_
        refine E.then_n ?_
        refine E.CW.ret ?_
        refine E.then_ret ?_
        refine E.KR.two [] Try.results48 rfl rfl rfl ?_
        exact ⟨by simp [Fl.distance, *], rfl⟩)
    · first | ((cases hc; done)) | (simp only [E.b0, E.b1, E.b2, E.b3, E.b4, E.b5, E.b6, E.b7, E.b8, E.b9, E.b10, E.b11, E.b12, E.b13, E.b14, E.b15, E.b16, E.b17, E.b18, E.b19, E.b20, reduceCtorEq] at hc)
      all_goals (
        refine E.CW.skip ?_
        refine E.then_n ?_
        refine E.CW.seq ?_
        refine E.CW.region ?_
        refine E.OW.pure rfl rfl rfl (E.PV.loads (i := 0) is114 rfl rfl rfl rfl) ?_
        refine E.OW.pure rfl rfl rfl (E.PV.move rfl rfl) ?_
        refine E.OW.pure rfl rfl rfl (E.PV.move rfl rfl) ?_
        (refine E.OW.call nm92 rfl rfl rfl rfl rfl rfl _ (fun w hw => apart_ok _ _ _ _ (Fl.has_iff.1 (by assumption)).1 (Fl.has_iff.1 (by assumption)).2 (Fl.has_iff.1 (by assumption)).2 w) ?_; rintro _ _ ⟨rfl, rfl⟩)
        refine E.OW.pure rfl rfl rfl (E.PV.assign rfl rfl) ?_
        refine E.OW.pure rfl rfl rfl (E.PV.assign rfl rfl) ?_
        refine E.OW.nil ?_
        refine E.then_n ?_
        refine E.CW.ret ?_
        refine E.KR.two [] Try.results48 rfl rfl rfl ?_
        exact ⟨by simp [Fl.distance, *], rfl⟩))

set_option maxRecDepth 100000 in
theorem Adjacent_ok (a b p q : Int) (w0 : World) :
    Calls Try.prog 49 #[.int .i64 a, .int .i64 b, .int .i64 p, .int .i64 q] w0 (E.Post w0 (E.Old w0) fun v Hn => v = .tuple #[.bool (Fl.adjacent a b p q).1, .int .i64 (Fl.adjacent a b p q).2] ∧ Hn = []) := by
  refine E.calls_of (vs := [.int .i64 a, .int .i64 b, .int .i64 p, .int .i64 q]) (H := []) Try.func49 Try.ntmps49 rfl rfl (E.HA.start w0) ?_
  refine E.CW.seq ?_
  refine E.CW.region ?_
  refine E.OW.pure rfl rfl rfl (E.PV.assign rfl rfl) ?_
  refine E.OW.pure rfl rfl rfl (E.PV.assign rfl rfl) ?_
  refine E.OW.nil ?_
  refine E.then_n ?_
  refine E.CW.seq ?_
  refine E.CW.region ?_
  refine E.OW.pure rfl rfl rfl (E.PV.move rfl rfl) ?_
  refine E.OW.pure rfl rfl rfl (E.PV.move rfl rfl) ?_
  refine E.OW.pure rfl rfl rfl (E.PV.move rfl rfl) ?_
  refine E.OW.pure rfl rfl rfl (E.PV.move rfl rfl) ?_
  (refine E.OW.call nm48 rfl rfl rfl rfl rfl rfl _ (fun w hw => Distance_ok _ _ _ _ w) ?_; rintro _ _ ⟨rfl, rfl⟩)
  refine E.OW.pure rfl rfl rfl (E.PV.move rfl rfl) ?_
  refine E.OW.pure rfl rfl rfl (E.PV.extract rfl rfl rfl) ?_
  refine E.OW.pure rfl rfl rfl (E.PV.extract rfl rfl rfl) ?_
  refine E.OW.pure rfl rfl rfl (E.PV.assign rfl rfl) ?_
  refine E.OW.pure rfl rfl rfl (E.PV.assign rfl rfl) ?_
  refine E.OW.nil ?_
  refine E.then_n ?_
  refine E.CW.seq ?_
  refine E.CW.region ?_
  refine E.OW.pure rfl rfl rfl (E.PV.move rfl rfl) ?_
  refine E.OW.pure rfl rfl rfl (E.PV.eql rfl rfl rfl) ?_
  refine E.OW.pure rfl rfl rfl (E.PV.move rfl rfl) ?_
  refine E.OW.pure rfl rfl rfl (E.PV.assign rfl rfl) ?_
  refine E.OW.pure rfl rfl rfl (E.PV.assign rfl rfl) ?_
  refine E.OW.nil ?_
  refine E.then_n ?_
  refine E.CW.ret ?_
  refine E.KR.two [] Try.results49 rfl rfl rfl ?_
  exact ⟨rfl, rfl⟩

set_option maxRecDepth 100000 in
theorem Max_ok (A : Option Addr) (c : Nat) (l : List UInt8) (w0 : World) (h1 : 1 ≤ l.length) (hl : l.length ≤ 140737488355328) (hX : E.Rd w0 (E.Old w0) A (E.u8s l)) :
    Calls Try.prog 134 #[.slice A l.length c] w0 (E.Post w0 (E.Old w0) fun v Hn => v = .int .u8 (Fl.mx l) ∧ Hn = []) := by
  refine E.calls_of (vs := [.slice A l.length c]) (H := []) Try.func134 Try.ntmps134 rfl rfl (E.HA.start w0) ?_
  refine E.CW.seq ?_
  refine E.CW.region ?_
  refine E.OW.pure rfl rfl rfl (E.PV.assign rfl rfl) ?_
  refine E.OW.nil ?_
  refine E.then_n ?_
  refine E.CW.seq ?_
  refine E.CW.seq ?_
  refine E.CW.region ?_
  refine E.OW.pure rfl rfl rfl (E.PV.move rfl rfl) ?_
  refine E.OW.pure rfl rfl rfl (E.PV.len Try.underlying22 rfl rfl) ?_
  refine E.OW.pure rfl rfl rfl (E.PV.lss rfl rfl rfl) ?_
  refine E.OW.nil ?_
  refine E.then_n ?_
  refine E.CW.cond rfl (fun hc => ?_) (fun hc => ?_)
  · simp only [E.b0, E.b1, E.b2, E.b3, E.b4, E.b5, E.b6, E.b7, E.b8, E.b9, E.b10, E.b11, E.b12, E.b13, E.b14, E.b15, E.b16, E.b17, E.b18, E.b19, E.b20, reduceCtorEq] at hc
    all_goals (exfalso; omega)
  · simp only [E.b0, E.b1, E.b2, E.b3, E.b4, E.b5, E.b6, E.b7, E.b8, E.b9, E.b10, E.b11, E.b12, E.b13, E.b14, E.b15, E.b16, E.b17, E.b18, E.b19, E.b20, reduceCtorEq] at hc
    all_goals (
      refine E.CW.skip ?_
      refine E.then_n ?_
      refine E.CW.seq ?_
      refine E.CW.region ?_
      refine E.OW.pure rfl rfl rfl (E.PV.move rfl rfl) ?_
      refine E.OW.pure rfl rfl rfl (E.PV.indexAddr1 (E.rdc hX) Try.underlying22 in5 rfl rfl rfl (E.tn ?_) ?_ ?_) ?_; (focus (omega)); (focus (first | (simp; done) | (simp; omega))); (focus (omega))
      refine E.OW.pure rfl rfl rfl (E.PV.load_u8 (E.rdc hX) na5 rfl rfl ?_) ?_; (focus (omega))
      refine E.OW.pure rfl rfl rfl (E.PV.assign rfl rfl) ?_
      refine E.OW.nil ?_
      refine E.then_n ?_
      refine E.CW.seq ?_
      refine E.CW.seq ?_
      refine E.CW.region ?_
      refine E.OW.pure rfl rfl rfl (E.PV.assign rfl rfl) ?_
      refine E.OW.nil ?_
      refine E.then_n ?_
      refine E.CW.block ?_
      refine E.CW.loopk [0] 0 rfl rfl (fun mm mods Hm => ∃ k : Nat, mm = l.length - k ∧ mods = [(3, .int .u8 (Fl.mx (l.take k))), (4, .int .i64 k)] ∧ Hm = [] ∧ (1 ≤ k ∧ k ≤ l.length)) (l.length - 1) ?_ ?_
      · exact ⟨[(3, _), (4, _)], (by repeat (first | exact E.cov_nil | refine ⟨rfl, ?_⟩)), 1, rfl, by rw [Fl.mx_one (by omega)]; try rfl, rfl, by omega⟩
      · rintro _ _ _ ⟨k, rfl, rfl, rfl, hk⟩
        refine E.CW.seq ?_
        refine E.CW.seq ?_
        refine E.CW.region ?_
        refine E.OW.pure rfl rfl rfl (E.PV.move rfl rfl) ?_
        refine E.OW.pure rfl rfl rfl (E.PV.move rfl rfl) ?_
        refine E.OW.pure rfl rfl rfl (E.PV.len Try.underlying22 rfl rfl) ?_
        refine E.OW.pure rfl rfl rfl (E.PV.lss rfl rfl rfl) ?_
        refine E.OW.nil ?_
        refine E.then_n ?_
        refine E.CW.cond rfl (fun hc => ?_) (fun hc => ?_)
        · simp only [E.b0, E.b1, E.b2, E.b3, E.b4, E.b5, E.b6, E.b7, E.b8, E.b9, E.b10, E.b11, E.b12, E.b13, E.b14, E.b15, E.b16, E.b17, E.b18, E.b19, E.b20, reduceCtorEq] at hc
          all_goals (
            refine E.CW.skip ?_
            refine E.then_n ?_
            refine E.CW.seq ?_
            refine E.CW.block ?_
            refine E.CW.region ?_
            refine E.OW.pure rfl rfl rfl (E.PV.move rfl rfl) ?_
            refine E.OW.pure rfl rfl rfl (E.PV.move rfl rfl) ?_
            refine E.OW.pure rfl rfl rfl (E.PV.move rfl rfl) ?_
            refine E.OW.pure rfl rfl rfl (E.PV.indexAddr1 (E.rdc hX) Try.underlying22 in5 rfl rfl rfl rfl ?_ ?_) ?_; (focus (first | (simp; done) | (simp; omega))); (focus (omega))
            refine E.OW.pure rfl rfl rfl (E.PV.load_u8 (E.rdc hX) na5 rfl rfl ?_) ?_; (focus (omega))
            refine E.OW.pure rfl rfl rfl (E.PV.max rfl rfl rfl) ?_
            refine E.OW.pure rfl rfl rfl (E.PV.assign rfl rfl) ?_
            refine E.OW.nil ?_
            refine E.blk_n ?_
            refine E.then_n ?_
            refine E.CW.region ?_
            refine E.OW.pure rfl rfl rfl (E.PV.move rfl rfl) ?_
            refine E.OW.pure rfl rfl rfl (E.PV.add_i64 rfl rfl rfl ?_) ?_; (focus (omega))
            refine E.OW.pure rfl rfl rfl (E.PV.assign rfl rfl) ?_
            refine E.OW.nil ?_
            refine E.then_nf ?_
            refine ⟨_, [(3, _), (4, _)], [], _, ?_, by repeat (first | exact E.cov_nil | refine ⟨rfl, ?_⟩), rfl, k + 1, rfl, by rw [Fl.mx_take (by omega)]; rfl, rfl, by omega⟩
            omega)
        · simp only [E.b0, E.b1, E.b2, E.b3, E.b4, E.b5, E.b6, E.b7, E.b8, E.b9, E.b10, E.b11, E.b12, E.b13, E.b14, E.b15, E.b16, E.b17, E.b18, E.b19, E.b20, reduceCtorEq] at hc
          all_goals (
            refine E.CW.exit ?_
            refine E.then_x ?_
            refine E.then_x ?_
            refine E.blk_eq ?_
            refine E.then_n ?_
            refine E.CW.seq ?_
            refine E.CW.region ?_
            refine E.OW.pure rfl rfl rfl (E.PV.move rfl rfl) ?_
            refine E.OW.pure rfl rfl rfl (E.PV.assign rfl rfl) ?_
            refine E.OW.nil ?_
            refine E.then_n ?_
            refine E.CW.ret ?_
            refine E.KR.one [] Try.results134 rfl rfl ?_
            exact ⟨by rw [List.take_of_length_le (by omega)], rfl⟩))

set_option maxRecDepth 100000 in
theorem CheckSlices_ok (A : Option Addr) (c : Nat) (l : List UInt8) (w0 : World) (hl : l.length ≤ 140737488355328) (hX : E.Rd w0 (E.Old w0) A (E.u8s l)) :
    Calls Try.prog 117 #[.slice A l.length c] w0 (E.Post w0 (E.Old w0) fun v Hn => v = .int .i64 (Fl.checkS l) ∧ Hn = []) := by
  refine E.calls_of (vs := [.slice A l.length c]) (H := []) Try.func117 Try.ntmps117 rfl rfl (E.HA.start w0) ?_
  refine E.CW.seq ?_
  refine E.CW.region ?_
  refine E.OW.pure rfl rfl rfl (E.PV.assign rfl rfl) ?_
  refine E.OW.nil ?_
  refine E.then_n ?_
  refine E.CW.seq ?_
  refine E.CW.seq ?_
  refine E.CW.region ?_
  refine E.OW.pure rfl rfl rfl (E.PV.move rfl rfl) ?_
  refine E.OW.pure rfl rfl rfl (E.PV.len Try.underlying22 rfl rfl) ?_
  refine E.OW.pure rfl rfl rfl (E.PV.lss rfl rfl rfl) ?_
  refine E.OW.pure rfl rfl rfl (E.PV.move rfl rfl) ?_
  all_goals (refine E.OW.split 6 rfl (fun hc => ?_) (fun hc => ?_) <;> (try simp only [E.b0, E.b1, E.b2, E.b3, E.b4, E.b5, E.b6, E.b7, E.b8, E.b9, E.b10, E.b11, E.b12, E.b13, E.b14, E.b15, E.b16, E.b17, E.b18, E.b19, E.b20, reduceCtorEq] at hc) <;> (try (exfalso; first | assumption | contradiction | omega)))
  all_goals (first | (refine E.OW.off rfl rfl rfl ?_) | (refine E.OW.pure rfl rfl rfl (E.PV.move rfl rfl) ?_))
  all_goals (first | (refine E.OW.off rfl rfl rfl ?_) | (refine E.OW.pure rfl rfl rfl (E.PV.len Try.underlying22 rfl rfl) ?_))
  all_goals (first | (refine E.OW.off rfl rfl rfl ?_) | (refine E.OW.pure rfl rfl rfl (E.PV.gtr rfl rfl rfl) ?_))
  all_goals (first | (refine E.OW.pure rfl rfl rfl (E.PV.pick_t rfl rfl rfl) ?_) | (refine E.OW.pure rfl rfl rfl (E.PV.pick_f rfl rfl rfl) ?_))
  all_goals (refine E.OW.pure rfl rfl rfl (E.PV.move rfl rfl) ?_)
  all_goals (first | (refine E.OW.put 11 (.bool true) (v := .bool true) rfl rfl ?_) | (refine E.OW.split 11 rfl (fun hc => ?_) (fun hc => ?_) <;> (try simp only [E.b0, E.b1, E.b2, E.b3, E.b4, E.b5, E.b6, E.b7, E.b8, E.b9, E.b10, E.b11, E.b12, E.b13, E.b14, E.b15, E.b16, E.b17, E.b18, E.b19, E.b20, reduceCtorEq] at hc) <;> (try (exfalso; first | assumption | contradiction | omega))))
  all_goals (first | (refine E.OW.off rfl rfl rfl ?_) | (refine E.OW.pure rfl rfl rfl (E.PV.move rfl rfl) ?_))
  all_goals (first | (refine E.OW.off rfl rfl rfl ?_) | ((refine E.OW.call nm134 rfl rfl rfl rfl rfl rfl _ (fun w hw => Max_ok _ _ _ w ?_ ?_ ?_) ?_; (focus (omega)); (focus (assumption)); (focus (refine hw.rd ?_; assumption)); rintro _ _ ⟨rfl, rfl⟩)))
  all_goals (first | (refine E.OW.off rfl rfl rfl ?_) | (refine E.OW.pure rfl rfl rfl (E.PV.gtr rfl rfl rfl) ?_))
  all_goals (first | (refine E.OW.pure rfl rfl rfl (E.PV.pick_t rfl rfl rfl) ?_) | (refine E.OW.pure rfl rfl rfl (E.PV.pick_f rfl rfl rfl) ?_))
  all_goals (
    refine E.OW.nil ?_
    refine E.then_n ?_
    refine E.CW.cond rfl (fun hc => ?_) (fun hc => ?_)
    · simp only [E.b0, E.b1, E.b2, E.b3, E.b4, E.b5, E.b6, E.b7, E.b8, E.b9, E.b10, E.b11, E.b12, E.b13, E.b14, E.b15, E.b16, E.b17, E.b18, E.b19, E.b20, reduceCtorEq] at hc
      all_goals (
        refine E.CW.seq ?_
        refine E.CW.region ?_
        refine E.OW.pure rfl rfl rfl (E.PV.assign rfl rfl) ?_
        refine E.OW.nil ?_
        refine E.then_n ?_
        refine E.CW.ret ?_
        refine E.then_ret ?_
        refine E.KR.one [] Try.results117 rfl rfl ?_
        exact ⟨by rw [Fl.checkS, if_neg (by intro hh; have := Fl.validS_iff.1 hh; have := @Fl.mx_le3 l; simp_all; omega)], rfl⟩)
    · first | ((cases hc; done)) | (simp only [E.b0, E.b1, E.b2, E.b3, E.b4, E.b5, E.b6, E.b7, E.b8, E.b9, E.b10, E.b11, E.b12, E.b13, E.b14, E.b15, E.b16, E.b17, E.b18, E.b19, E.b20, reduceCtorEq] at hc)
      all_goals (
        refine E.CW.skip ?_
        refine E.then_n ?_
        refine E.CW.seq ?_
        refine E.CW.region ?_
        refine E.OW.pure rfl rfl rfl (E.PV.assign rfl rfl) ?_
        refine E.OW.nil ?_
        refine E.then_n ?_
        refine E.CW.ret ?_
        refine E.KR.one [] Try.results117 rfl rfl ?_
        exact ⟨by rw [Fl.checkS, if_pos (Fl.validS_iff.2 ⟨by omega, Fl.mx_le3.1 (by assumption)⟩)], rfl⟩))

set_option maxRecDepth 100000 in
theorem SliceOwner_ok (A : Option Addr) (c : Nat) (l : List UInt8) (tick : Int) (ht : 0 ≤ tick ∧ tick < 18446744073709551616) (w0 : World) (hl : l.length ≤ 140737488355328) (hX : E.Rd w0 (E.Old w0) A (E.u8s l)) :
    Calls Try.prog 102 #[.slice A l.length c, .int .u64 tick] w0 (E.Post w0 (E.Old w0) fun v Hn => v = .tuple #[.int .i64 (Fl.sliceOwner l tick).1, .int .i64 (Fl.sliceOwner l tick).2] ∧ Hn = []) := by
  refine E.calls_of (vs := [.slice A l.length c, .int .u64 tick]) (H := []) Try.func102 Try.ntmps102 rfl rfl (E.HA.start w0) ?_
  refine E.CW.seq ?_
  refine E.CW.region ?_
  refine E.OW.pure rfl rfl rfl (E.PV.assign rfl rfl) ?_
  refine E.OW.pure rfl rfl rfl (E.PV.assign rfl rfl) ?_
  refine E.OW.nil ?_
  refine E.then_n ?_
  refine E.CW.seq ?_
  refine E.CW.seq ?_
  refine E.CW.region ?_
  refine E.OW.pure rfl rfl rfl (E.PV.move rfl rfl) ?_
  (refine E.OW.call nm117 rfl rfl rfl rfl rfl rfl _ (fun w hw => CheckSlices_ok _ _ _ w ?_ ?_) ?_; (focus (assumption)); (focus (refine hw.rd ?_; assumption)); rintro _ _ ⟨rfl, rfl⟩)
  refine E.OW.pure rfl rfl rfl (E.PV.assign rfl rfl) ?_
  refine E.OW.nil ?_
  refine E.then_n ?_
  refine E.CW.seq ?_
  refine E.CW.region ?_
  refine E.OW.pure rfl rfl rfl (E.PV.move rfl rfl) ?_
  refine E.OW.pure rfl rfl rfl (E.PV.neq rfl rfl rfl) ?_
  refine E.OW.nil ?_
  refine E.then_n ?_
  refine E.CW.cond rfl (fun hc => ?_) (fun hc => ?_)
  · simp only [E.b0, E.b1, E.b2, E.b3, E.b4, E.b5, E.b6, E.b7, E.b8, E.b9, E.b10, E.b11, E.b12, E.b13, E.b14, E.b15, E.b16, E.b17, E.b18, E.b19, E.b20, reduceCtorEq] at hc
    all_goals (
      refine E.CW.seq ?_
      refine E.CW.region ?_
      refine E.OW.pure rfl rfl rfl (E.PV.move rfl rfl) ?_
      refine E.OW.pure rfl rfl rfl (E.PV.assign rfl rfl) ?_
      refine E.OW.pure rfl rfl rfl (E.PV.assign rfl rfl) ?_
      refine E.OW.nil ?_
      refine E.then_n ?_
      refine E.CW.ret ?_
      refine E.then_ret ?_
      refine E.KR.two [] Try.results102 rfl rfl rfl ?_
      exact ⟨by (cases hq : Fl.validS l <;> simp_all [Fl.sliceOwner, Fl.checkS]), rfl⟩)
  · simp only [E.b0, E.b1, E.b2, E.b3, E.b4, E.b5, E.b6, E.b7, E.b8, E.b9, E.b10, E.b11, E.b12, E.b13, E.b14, E.b15, E.b16, E.b17, E.b18, E.b19, E.b20, reduceCtorEq] at hc
    all_goals (
      refine E.CW.skip ?_
      refine E.then_n ?_
      refine E.CW.seq ?_
      have hs : Fl.validS l = true := by cases hq : Fl.validS l <;> simp_all [Fl.checkS]
      have hv := (Fl.validS_iff.1 hs).1
      have hmb := Fl.mod_b (l := l) tick (by omega)
      have hmz := Fl.ent_zero (l := l) (tick := tick) (by omega)
      have hu := (l.getD (tick % (l.length : Int)).toNat 0).toNat_lt
      refine E.CW.region ?_
      refine E.OW.pure rfl rfl rfl (E.PV.move rfl rfl) ?_
      refine E.OW.pure rfl rfl rfl (E.PV.move rfl rfl) ?_
      refine E.OW.pure rfl rfl rfl (E.PV.move rfl rfl) ?_
      refine E.OW.pure rfl rfl rfl (E.PV.len Try.underlying22 rfl rfl) ?_
      refine E.OW.pure rfl rfl rfl (E.PV.conv_in Try.underlying3 Try.underlying26 rfl rfl ?_) ?_; (focus (first | exact E.wrap_u8 _ | (simp only [IntKind.wrap_i64, IntKind.wrap_u64, IntKind.wrap_u8]; omega)))
      refine E.OW.pure rfl rfl rfl (E.PV.rem_i64 rfl rfl rfl ?_ ?_) ?_; (focus (omega)); (focus (omega))
      refine E.OW.pure rfl rfl rfl (E.PV.indexAddr1 (E.rdc hX) Try.underlying22 in5 rfl rfl rfl (E.tn ?_) ?_ ?_) ?_; (focus (omega)); (focus (first | (simp; done) | (simp; omega))); (focus (omega))
      refine E.OW.pure rfl rfl rfl (E.PV.load_u8 (E.rdc hX) na5 rfl rfl ?_) ?_; (focus (omega))
      refine E.OW.pure rfl rfl rfl (E.PV.conv_in Try.underlying5 Try.underlying3 rfl rfl ?_) ?_; (focus (first | exact E.wrap_u8 _ | (simp only [IntKind.wrap_i64, IntKind.wrap_u64, IntKind.wrap_u8]; omega)))
      refine E.OW.pure rfl rfl rfl (E.PV.sub_i64 rfl rfl rfl ?_) ?_; (focus (omega))
      refine E.OW.pure rfl rfl rfl (E.PV.assign rfl rfl) ?_
      refine E.OW.pure rfl rfl rfl (E.PV.assign rfl rfl) ?_
      refine E.OW.nil ?_
      refine E.then_n ?_
      refine E.CW.ret ?_
      refine E.KR.two [] Try.results102 rfl rfl rfl ?_
      exact ⟨by rw [hmz]; simp [Fl.sliceOwner, hs, Fl.sown], rfl⟩)

set_option maxRecDepth 100000 in
theorem IxU_ok (A : Option Addr) (c : Nat) (l : List UInt8) (q : UInt8 → Bool) (f : Nat) (caps : Array Value) (w0 : World) (hn : E.Nm Try.prog f) (hq : ∀ w, E.HA w0 (E.Old w0) [] w → ∀ x : UInt8, Calls Try.prog f (#[.int .u8 (x.toNat : Int)] ++ caps) w (E.Post w (E.Old w) fun v Hn => v = .bool (q x) ∧ Hn = [])) (hl : l.length ≤ 140737488355328) (hX : E.Rd w0 (E.Old w0) A (E.u8s l)) :
    Calls Try.prog 133 #[.slice A l.length c, .func (.func f) #[] caps] w0 (E.Post w0 (E.Old w0) fun v Hn => v = .int .i64 (Fl.idx q l) ∧ Hn = []) := by
  refine E.calls_of (vs := [.slice A l.length c, .func (.func f) #[] caps]) (H := []) Try.func133 Try.ntmps133 rfl rfl (E.HA.start w0) ?_
  refine E.CW.seq ?_
  refine E.CW.region ?_
  refine E.OW.pure rfl rfl rfl (E.PV.assign rfl rfl) ?_
  refine E.OW.nil ?_
  refine E.then_n ?_
  refine E.CW.seq ?_
  refine E.CW.seq ?_
  refine E.CW.region ?_
  refine E.OW.pure rfl rfl rfl (E.PV.move rfl rfl) ?_
  refine E.OW.pure rfl rfl rfl (E.PV.len Try.underlying22 rfl rfl) ?_
  refine E.OW.pure rfl rfl rfl (E.PV.move rfl rfl) ?_
  refine E.OW.nil ?_
  refine E.then_n ?_
  refine E.CW.block ?_
  refine E.CW.loopk [0, 1, 7] 0 rfl rfl (fun mm mods Hm => ∃ k : Nat, mm = l.length - k ∧ mods = [(8, .int .i64 k)] ∧ Hm = [] ∧ (k ≤ l.length ∧ ∀ j, j < k → q (l.getD j 0) = false)) (l.length) ?_ ?_
  · exact ⟨[(8, _)], (by repeat (first | exact E.cov_nil | refine ⟨rfl, ?_⟩)), 0, rfl, rfl, rfl, by omega, fun j hj => by omega⟩
  · rintro _ _ _ ⟨k, rfl, rfl, rfl, hk, hI⟩
    refine E.CW.seq ?_
    refine E.CW.region ?_
    refine E.OW.pure rfl rfl rfl (E.PV.lss rfl rfl rfl) ?_
    refine E.OW.nil ?_
    refine E.then_n ?_
    refine E.CW.seq ?_
    refine E.CW.cond rfl (fun hc => ?_) (fun hc => ?_)
    · simp only [E.b0, E.b1, E.b2, E.b3, E.b4, E.b5, E.b6, E.b7, E.b8, E.b9, E.b10, E.b11, E.b12, E.b13, E.b14, E.b15, E.b16, E.b17, E.b18, E.b19, E.b20, reduceCtorEq] at hc
      all_goals (
        refine E.CW.skip ?_
        refine E.then_n ?_
        refine E.CW.seq ?_
        refine E.CW.block ?_
        refine E.CW.seq ?_
        refine E.CW.region ?_
        refine E.OW.pure rfl rfl rfl (E.PV.move rfl rfl) ?_
        refine E.OW.pure rfl rfl rfl (E.PV.assign rfl rfl) ?_
        refine E.OW.nil ?_
        refine E.then_n ?_
        refine E.CW.seq ?_
        refine E.CW.region ?_
        refine E.OW.pure rfl rfl rfl (E.PV.move rfl rfl) ?_
        refine E.OW.pure rfl rfl rfl (E.PV.move rfl rfl) ?_
        refine E.OW.pure rfl rfl rfl (E.PV.move rfl rfl) ?_
        refine E.OW.pure rfl rfl rfl (E.PV.indexAddr1 (E.rdc hX) Try.underlying22 in5 rfl rfl rfl rfl ?_ ?_) ?_; (focus (first | (simp; done) | (simp; omega))); (focus (omega))
        refine E.OW.pure rfl rfl rfl (E.PV.load_u8 (E.rdc hX) na5 rfl rfl ?_) ?_; (focus (omega))
        refine E.OW.callc hn rfl rfl rfl rfl rfl rfl _ (fun w hw => hq w hw.base _) ?_; rintro _ _ ⟨rfl, rfl⟩
        refine E.OW.nil ?_
        refine E.then_n ?_
        refine E.CW.cond rfl (fun hc => ?_) (fun hc => ?_)
        · skip
          all_goals (
            refine E.CW.seq ?_
            refine E.CW.region ?_
            refine E.OW.pure rfl rfl rfl (E.PV.move rfl rfl) ?_
            refine E.OW.pure rfl rfl rfl (E.PV.assign rfl rfl) ?_
            refine E.OW.nil ?_
            refine E.then_n ?_
            refine E.CW.ret ?_
            refine E.blk_ret ?_
            refine E.then_ret ?_
            refine E.then_ret ?_
            refine E.blk_ret ?_
            refine E.then_ret ?_
            refine E.KR.one [] Try.results133 rfl rfl ?_
            exact ⟨by rw [Fl.idx_some (k := k) (by omega) hI (by assumption)], rfl⟩)
        · skip
          all_goals (
            refine E.CW.skip ?_
            refine E.blk_n ?_
            refine E.then_n ?_
            refine E.CW.region ?_
            refine E.OW.pure rfl rfl rfl (E.PV.add_i64 rfl rfl rfl ?_) ?_; (focus (omega))
            refine E.OW.pure rfl rfl rfl (E.PV.move rfl rfl) ?_
            refine E.OW.nil ?_
            refine E.then_nf ?_
            refine ⟨_, [(8, _)], [], _, ?_, by repeat (first | exact E.cov_nil | refine ⟨rfl, ?_⟩), rfl, k + 1, rfl, rfl, rfl, by omega, fun j hj => by
    rcases Nat.lt_succ_iff_lt_or_eq.1 hj with h | rfl
    · exact hI j h
    · assumption⟩
            omega))
    · simp only [E.b0, E.b1, E.b2, E.b3, E.b4, E.b5, E.b6, E.b7, E.b8, E.b9, E.b10, E.b11, E.b12, E.b13, E.b14, E.b15, E.b16, E.b17, E.b18, E.b19, E.b20, reduceCtorEq] at hc
      all_goals (
        refine E.CW.exit ?_
        refine E.then_x ?_
        refine E.then_x ?_
        refine E.blk_eq ?_
        refine E.then_n ?_
        refine E.CW.seq ?_
        refine E.CW.region ?_
        refine E.OW.pure rfl rfl rfl (E.PV.assign rfl rfl) ?_
        refine E.OW.nil ?_
        refine E.then_n ?_
        refine E.CW.ret ?_
        refine E.KR.one [] Try.results133 rfl rfl ?_
        exact ⟨by rw [Fl.idx_none (fun j hj => hI j (by omega))], rfl⟩)

set_option maxRecDepth 100000 in
theorem CFU_ok (A : Option Addr) (c : Nat) (l : List UInt8) (q : UInt8 → Bool) (f : Nat) (caps : Array Value) (w0 : World) (hn : E.Nm Try.prog f) (hq : ∀ w, E.HA w0 (E.Old w0) [] w → ∀ x : UInt8, Calls Try.prog f (#[.int .u8 (x.toNat : Int)] ++ caps) w (E.Post w (E.Old w) fun v Hn => v = .bool (q x) ∧ Hn = [])) (hl : l.length ≤ 140737488355328) (hX : E.Rd w0 (E.Old w0) A (E.u8s l)) :
    Calls Try.prog 114 #[.slice A l.length c, .func (.func f) #[] caps] w0 (E.Post w0 (E.Old w0) fun v Hn => v = .bool (l.any q) ∧ Hn = []) := by
  refine E.calls_of (vs := [.slice A l.length c, .func (.func f) #[] caps]) (H := []) Try.func114 Try.ntmps114 rfl rfl (E.HA.start w0) ?_
  refine E.CW.seq ?_
  refine E.CW.region ?_
  refine E.OW.pure rfl rfl rfl (E.PV.assign rfl rfl) ?_
  refine E.OW.nil ?_
  refine E.then_n ?_
  refine E.CW.seq ?_
  refine E.CW.region ?_
  refine E.OW.pure rfl rfl rfl (E.PV.move rfl rfl) ?_
  refine E.OW.pure rfl rfl rfl (E.PV.move rfl rfl) ?_
  (refine E.OW.call nm133 rfl rfl rfl rfl rfl rfl _ (fun w hw => IxU_ok _ _ _ q _ caps w hn (fun w2 hw2 => hq w2 (hw2.old hw)) ?_ ?_) ?_; (focus (assumption)); (focus (refine hw.rd ?_; assumption)); rintro _ _ ⟨rfl, rfl⟩)
  refine E.OW.pure rfl rfl rfl (E.PV.geq rfl rfl rfl) ?_
  refine E.OW.pure rfl rfl rfl (E.PV.assign rfl rfl) ?_
  refine E.OW.nil ?_
  refine E.then_n ?_
  refine E.CW.ret ?_
  refine E.KR.one [] Try.results114 rfl rfl ?_
  exact ⟨by rw [Fl.idx_any], rfl⟩

set_option maxRecDepth 100000 in
theorem IxI_ok (A : Option Addr) (c : Nat) (l : List Int) (q : Int → Bool) (f : Nat) (caps : Array Value) (w0 : World) (hn : E.Nm Try.prog f) (hq : ∀ w, E.HA w0 (E.Old w0) [] w → ∀ x : Int, Calls Try.prog f (#[.int .i64 x] ++ caps) w (E.Post w (E.Old w) fun v Hn => v = .bool (q x) ∧ Hn = [])) (hl : l.length ≤ 140737488355328) (hX : E.Rd w0 (E.Old w0) A (E.ints l)) :
    Calls Try.prog 151 #[.slice A l.length c, .func (.func f) #[] caps] w0 (E.Post w0 (E.Old w0) fun v Hn => v = .int .i64 (Cf.idx q l) ∧ Hn = []) := by
  refine E.calls_of (vs := [.slice A l.length c, .func (.func f) #[] caps]) (H := []) Try.func151 Try.ntmps151 rfl rfl (E.HA.start w0) ?_
  refine E.CW.seq ?_
  refine E.CW.region ?_
  refine E.OW.pure rfl rfl rfl (E.PV.assign rfl rfl) ?_
  refine E.OW.nil ?_
  refine E.then_n ?_
  refine E.CW.seq ?_
  refine E.CW.seq ?_
  refine E.CW.region ?_
  refine E.OW.pure rfl rfl rfl (E.PV.move rfl rfl) ?_
  refine E.OW.pure rfl rfl rfl (E.PV.len Try.underlying31 rfl rfl) ?_
  refine E.OW.pure rfl rfl rfl (E.PV.move rfl rfl) ?_
  refine E.OW.nil ?_
  refine E.then_n ?_
  refine E.CW.block ?_
  refine E.CW.loopk [0, 1, 7] 0 rfl rfl (fun mm mods Hm => ∃ k : Nat, mm = l.length - k ∧ mods = [(8, .int .i64 k)] ∧ Hm = [] ∧ (k ≤ l.length ∧ ∀ j, j < k → q (l.getD j 0) = false)) (l.length) ?_ ?_
  · exact ⟨[(8, _)], (by repeat (first | exact E.cov_nil | refine ⟨rfl, ?_⟩)), 0, rfl, rfl, rfl, by omega, fun j hj => by omega⟩
  · rintro _ _ _ ⟨k, rfl, rfl, rfl, hk, hI⟩
    refine E.CW.seq ?_
    refine E.CW.region ?_
    refine E.OW.pure rfl rfl rfl (E.PV.lss rfl rfl rfl) ?_
    refine E.OW.nil ?_
    refine E.then_n ?_
    refine E.CW.seq ?_
    refine E.CW.cond rfl (fun hc => ?_) (fun hc => ?_)
    · simp only [E.b0, E.b1, E.b2, E.b3, E.b4, E.b5, E.b6, E.b7, E.b8, E.b9, E.b10, E.b11, E.b12, E.b13, E.b14, E.b15, E.b16, E.b17, E.b18, E.b19, E.b20, reduceCtorEq] at hc
      all_goals (
        refine E.CW.skip ?_
        refine E.then_n ?_
        refine E.CW.seq ?_
        refine E.CW.block ?_
        refine E.CW.seq ?_
        refine E.CW.region ?_
        refine E.OW.pure rfl rfl rfl (E.PV.move rfl rfl) ?_
        refine E.OW.pure rfl rfl rfl (E.PV.assign rfl rfl) ?_
        refine E.OW.nil ?_
        refine E.then_n ?_
        refine E.CW.seq ?_
        refine E.CW.region ?_
        refine E.OW.pure rfl rfl rfl (E.PV.move rfl rfl) ?_
        refine E.OW.pure rfl rfl rfl (E.PV.move rfl rfl) ?_
        refine E.OW.pure rfl rfl rfl (E.PV.move rfl rfl) ?_
        refine E.OW.pure rfl rfl rfl (E.PV.indexAddr1 (E.rdc hX) Try.underlying31 in3 rfl rfl rfl rfl ?_ ?_) ?_; (focus (first | (simp; done) | (simp; omega))); (focus (omega))
        refine E.OW.pure rfl rfl rfl (E.PV.load_int (E.rdc hX) na3 rfl rfl ?_) ?_; (focus (omega))
        refine E.OW.callc hn rfl rfl rfl rfl rfl rfl _ (fun w hw => hq w hw.base _) ?_; rintro _ _ ⟨rfl, rfl⟩
        refine E.OW.nil ?_
        refine E.then_n ?_
        refine E.CW.cond rfl (fun hc => ?_) (fun hc => ?_)
        · skip
          all_goals (
            refine E.CW.seq ?_
            refine E.CW.region ?_
            refine E.OW.pure rfl rfl rfl (E.PV.move rfl rfl) ?_
            refine E.OW.pure rfl rfl rfl (E.PV.assign rfl rfl) ?_
            refine E.OW.nil ?_
            refine E.then_n ?_
            refine E.CW.ret ?_
            refine E.blk_ret ?_
            refine E.then_ret ?_
            refine E.then_ret ?_
            refine E.blk_ret ?_
            refine E.then_ret ?_
            refine E.KR.one [] Try.results151 rfl rfl ?_
            exact ⟨by rw [Cf.idx_some (k := k) (by omega) hI (by assumption)], rfl⟩)
        · skip
          all_goals (
            refine E.CW.skip ?_
            refine E.blk_n ?_
            refine E.then_n ?_
            refine E.CW.region ?_
            refine E.OW.pure rfl rfl rfl (E.PV.add_i64 rfl rfl rfl ?_) ?_; (focus (omega))
            refine E.OW.pure rfl rfl rfl (E.PV.move rfl rfl) ?_
            refine E.OW.nil ?_
            refine E.then_nf ?_
            refine ⟨_, [(8, _)], [], _, ?_, by repeat (first | exact E.cov_nil | refine ⟨rfl, ?_⟩), rfl, k + 1, rfl, rfl, rfl, by omega, fun j hj => by
    rcases Nat.lt_succ_iff_lt_or_eq.1 hj with h | rfl
    · exact hI j h
    · assumption⟩
            omega))
    · simp only [E.b0, E.b1, E.b2, E.b3, E.b4, E.b5, E.b6, E.b7, E.b8, E.b9, E.b10, E.b11, E.b12, E.b13, E.b14, E.b15, E.b16, E.b17, E.b18, E.b19, E.b20, reduceCtorEq] at hc
      all_goals (
        refine E.CW.exit ?_
        refine E.then_x ?_
        refine E.then_x ?_
        refine E.blk_eq ?_
        refine E.then_n ?_
        refine E.CW.seq ?_
        refine E.CW.region ?_
        refine E.OW.pure rfl rfl rfl (E.PV.assign rfl rfl) ?_
        refine E.OW.nil ?_
        refine E.then_n ?_
        refine E.CW.ret ?_
        refine E.KR.one [] Try.results151 rfl rfl ?_
        exact ⟨by rw [Cf.idx_none (fun j hj => hI j (by omega))], rfl⟩)

set_option maxRecDepth 100000 in
theorem CFI_ok (A : Option Addr) (c : Nat) (l : List Int) (q : Int → Bool) (f : Nat) (caps : Array Value) (w0 : World) (hn : E.Nm Try.prog f) (hq : ∀ w, E.HA w0 (E.Old w0) [] w → ∀ x : Int, Calls Try.prog f (#[.int .i64 x] ++ caps) w (E.Post w (E.Old w) fun v Hn => v = .bool (q x) ∧ Hn = [])) (hl : l.length ≤ 140737488355328) (hX : E.Rd w0 (E.Old w0) A (E.ints l)) :
    Calls Try.prog 139 #[.slice A l.length c, .func (.func f) #[] caps] w0 (E.Post w0 (E.Old w0) fun v Hn => v = .bool (l.any q) ∧ Hn = []) := by
  refine E.calls_of (vs := [.slice A l.length c, .func (.func f) #[] caps]) (H := []) Try.func139 Try.ntmps139 rfl rfl (E.HA.start w0) ?_
  refine E.CW.seq ?_
  refine E.CW.region ?_
  refine E.OW.pure rfl rfl rfl (E.PV.assign rfl rfl) ?_
  refine E.OW.nil ?_
  refine E.then_n ?_
  refine E.CW.seq ?_
  refine E.CW.region ?_
  refine E.OW.pure rfl rfl rfl (E.PV.move rfl rfl) ?_
  refine E.OW.pure rfl rfl rfl (E.PV.move rfl rfl) ?_
  (refine E.OW.call nm151 rfl rfl rfl rfl rfl rfl _ (fun w hw => IxI_ok _ _ _ q _ caps w hn (fun w2 hw2 => hq w2 (hw2.old hw)) ?_ ?_) ?_; (focus (assumption)); (focus (refine hw.rd ?_; assumption)); rintro _ _ ⟨rfl, rfl⟩)
  refine E.OW.pure rfl rfl rfl (E.PV.geq rfl rfl rfl) ?_
  refine E.OW.pure rfl rfl rfl (E.PV.assign rfl rfl) ?_
  refine E.OW.nil ?_
  refine E.then_n ?_
  refine E.CW.ret ?_
  refine E.KR.one [] Try.results139 rfl rfl ?_
  exact ⟨by rw [Cf.idx_any], rfl⟩

set_option maxRecDepth 100000 in
theorem odd_ok (x : UInt8) (w0 : World) :
    Calls Try.prog 111 #[.int .u8 (x.toNat : Int)] w0 (E.Post w0 (E.Old w0) fun v Hn => v = .bool (!Fl.okc x) ∧ Hn = []) := by
  have hu := x.toNat_lt
  refine E.calls_of (vs := [.int .u8 (x.toNat : Int)]) (H := []) Try.func111 Try.ntmps111 rfl rfl (E.HA.start w0) ?_
  refine E.CW.seq ?_
  refine E.CW.region ?_
  refine E.OW.pure rfl rfl rfl (E.PV.assign rfl rfl) ?_
  refine E.OW.nil ?_
  refine E.then_n ?_
  refine E.CW.seq ?_
  refine E.CW.region ?_
  refine E.OW.pure rfl rfl rfl (E.PV.move rfl rfl) ?_
  refine E.OW.pure rfl rfl rfl (E.PV.gtr rfl rfl rfl) ?_
  refine E.OW.pure rfl rfl rfl (E.PV.move rfl rfl) ?_
  all_goals (refine E.OW.split 5 rfl (fun hc => ?_) (fun hc => ?_) <;> (try simp only [E.b0, E.b1, E.b2, E.b3, E.b4, E.b5, E.b6, E.b7, E.b8, E.b9, E.b10, E.b11, E.b12, E.b13, E.b14, E.b15, E.b16, E.b17, E.b18, E.b19, E.b20, reduceCtorEq] at hc) <;> (try (exfalso; first | assumption | contradiction | omega)))
  all_goals (first | (refine E.OW.off rfl rfl rfl ?_) | (refine E.OW.pure rfl rfl rfl (E.PV.move rfl rfl) ?_))
  all_goals (first | (refine E.OW.off rfl rfl rfl ?_) | (refine E.OW.pure rfl rfl rfl (E.PV.neq rfl rfl rfl) ?_))
  all_goals (first | (refine E.OW.pure rfl rfl rfl (E.PV.pick_t rfl rfl rfl) ?_) | (refine E.OW.pure rfl rfl rfl (E.PV.pick_f rfl rfl rfl) ?_))
  all_goals (refine E.OW.pure rfl rfl rfl (E.PV.assign rfl rfl) ?_)
  all_goals (
    refine E.OW.nil ?_
    refine E.then_n ?_
    refine E.CW.ret ?_
    refine E.KR.one [] Try.results111 rfl rfl ?_
    exact ⟨by rw [Fl.okc_i]; simp [*] <;> omega, rfl⟩)

set_option maxRecDepth 100000 in
theorem boardOf_ok (a b : Int) (A : Option Addr) (c : Nat) (l : List UInt8) (w0 : World) :
    Calls Try.prog 83 #[.agg #[.int .i64 a, .int .i64 b, .slice A l.length c]] w0 (E.Post w0 (E.Old w0) fun v Hn => v = .agg #[.int .i64 a, .int .i64 b, .slice A l.length c] ∧ Hn = []) := by
  refine E.calls_of (vs := [.agg #[.int .i64 a, .int .i64 b, .slice A l.length c]]) (H := []) Try.func83 Try.ntmps83 rfl rfl (E.HA.start w0) ?_
  refine E.CW.seq ?_
  refine E.CW.region ?_
  refine E.OW.box rfl rfl rfl rfl rfl rfl (fun B1 => ?_)
  refine E.OW.alloc (in116.zr) rfl rfl rfl rfl rfl (fun B2 => ?_)
  refine E.OW.nil ?_
  refine E.then_n ?_
  refine E.CW.seq ?_
  refine E.CW.region ?_
  refine E.OW.pure rfl rfl rfl (E.PV.fieldAddr fa24_0 rfl rfl) ?_
  refine E.OW.pure rfl rfl rfl (E.PV.load (i := 1) na3 rfl rfl rfl rfl) ?_
  refine E.OW.pure rfl rfl rfl (E.PV.fieldAddr fa24_1 rfl rfl) ?_
  refine E.OW.pure rfl rfl rfl (E.PV.load (i := 1) na3 rfl rfl rfl rfl) ?_
  refine E.OW.pure rfl rfl rfl (E.PV.build (ps := [(0, .tmp 4), (1, .tmp 6)]) rfl rfl (fun w => bld114_0_1 _ _ w)) ?_
  refine E.OW.pure rfl rfl rfl (E.PV.fieldAddr fa24_2 rfl rfl) ?_
  refine E.OW.pure rfl rfl rfl (E.PV.load (i := 1) na22 rfl rfl rfl rfl) ?_
  refine E.OW.pure rfl rfl rfl (E.PV.build (ps := [(0, .tmp 7), (1, .tmp 9)]) rfl rfl (fun w => bld116_0_1 _ _ _ _ _ w)) ?_
  refine E.OW.store (i := 0) in116.size rfl rfl rfl rfl rfl rfl rfl rfl rfl ?_
  refine E.OW.nil ?_
  refine E.then_n ?_
  refine E.CW.ret ?_
  refine E.KR.rv1 [] Try.results83 (E.rv.cell is116 rfl (E.sli 0 rfl) rfl) rfl ?_
  exact ⟨rfl, rfl⟩

set_option maxRecDepth 100000 in
theorem bcheck_ok (a b : Int) (A : Option Addr) (c : Nat) (l : List UInt8) (w0 : World) (hl : l.length ≤ 140737488355328) (hX : E.Rd w0 (E.Old w0) A (E.u8s l)) :
    Calls Try.prog 84 #[.agg #[.int .i64 a, .int .i64 b, .slice A l.length c]] w0 (E.Post w0 (E.Old w0) fun v Hn => v = .int .i64 (Fl.checkF a b l) ∧ Hn = []) := by
  refine E.calls_of (vs := [.agg #[.int .i64 a, .int .i64 b, .slice A l.length c]]) (H := []) Try.func84 Try.ntmps84 rfl rfl (E.HA.start w0) ?_
  refine E.CW.seq ?_
  refine E.CW.region ?_
  refine E.OW.box rfl rfl rfl rfl rfl rfl (fun B1 => ?_)
  refine E.OW.pure rfl rfl rfl (E.PV.assign rfl rfl) ?_
  refine E.OW.nil ?_
  refine E.then_n ?_
  refine E.CW.seq ?_
  refine E.CW.region ?_
  refine E.OW.pure rfl rfl rfl (E.PV.assign rfl rfl) ?_
  refine E.OW.nil ?_
  refine E.then_n ?_
  refine E.CW.seq ?_
  refine E.CW.seq ?_
  refine E.CW.draw mixed (by kernel_rfl) ?_
  refine E.QW.pure rfl rfl rfl (E.PV.fieldAddr fa116_0 rfl rfl) ?_
  refine E.QW.pure rfl rfl rfl (E.PV.loads (i := 0) is114 rfl rfl rfl rfl) ?_
  (refine E.QW.call nm112 rfl rfl rfl rfl rfl rfl _ (fun w hw => E.Post.val (valid_ok _ _ w)) ?_)
  refine E.QW.pure rfl rfl rfl (E.PV.not rfl rfl) ?_
  refine E.QW.pure rfl rfl rfl (E.PV.move rfl rfl) ?_
  all_goals (refine E.QW.split 8 rfl (fun hc => ?_) (fun hc => ?_) <;> (try simp only [E.b0, E.b1, E.b2, E.b3, E.b4, E.b5, E.b6, E.b7, E.b8, E.b9, E.b10, E.b11, E.b12, E.b13, E.b14, E.b15, E.b16, E.b17, E.b18, E.b19, E.b20, reduceCtorEq] at hc) <;> (try (exfalso; first | assumption | contradiction | omega)))
  all_goals (first | (refine E.QW.off rfl rfl rfl ?_) | (refine E.QW.pure rfl rfl rfl (E.PV.fieldAddr fa116_1 rfl rfl) ?_))
  all_goals (first | (refine E.QW.off rfl rfl rfl ?_) | (refine E.QW.pure rfl rfl rfl (E.PV.load (i := 0) na22 rfl rfl rfl rfl) ?_))
  all_goals (first | (refine E.QW.off rfl rfl rfl ?_) | (refine E.QW.pure rfl rfl rfl (E.PV.len Try.underlying22 rfl rfl) ?_))
  all_goals (first | (refine E.QW.off rfl rfl rfl ?_) | (refine E.QW.pure rfl rfl rfl (E.PV.fieldAddr fa116_0 rfl rfl) ?_))
  all_goals (first | (refine E.QW.off rfl rfl rfl ?_) | (refine E.QW.pure rfl rfl rfl (E.PV.loads (i := 0) is114 rfl rfl rfl rfl) ?_))
  all_goals (first | (refine E.QW.off rfl rfl rfl ?_) | ((refine E.QW.call nm113 rfl rfl rfl rfl rfl rfl _ (fun w hw => E.Post.val (size_ok _ _ (Fl.valid_iff.1 (by assumption)) w)) ?_)))
  all_goals (first | (refine E.QW.off rfl rfl rfl ?_) | (refine E.QW.pure rfl rfl rfl (E.PV.neq rfl rfl rfl) ?_))
  all_goals (first | (refine E.QW.pure rfl rfl rfl (E.PV.pick_t rfl rfl rfl) ?_) | (refine E.QW.pure rfl rfl rfl (E.PV.pick_f rfl rfl rfl) ?_))
  all_goals (refine E.QW.pure rfl rfl rfl (E.PV.move rfl rfl) ?_)
  all_goals (first | (refine E.QW.put 17 (.bool true) (v := .bool true) rfl rfl ?_) | (refine E.QW.split 17 rfl (fun hc => ?_) (fun hc => ?_) <;> (try simp only [E.b0, E.b1, E.b2, E.b3, E.b4, E.b5, E.b6, E.b7, E.b8, E.b9, E.b10, E.b11, E.b12, E.b13, E.b14, E.b15, E.b16, E.b17, E.b18, E.b19, E.b20, reduceCtorEq] at hc) <;> (try (exfalso; first | assumption | contradiction | omega))))
  all_goals (first | (refine E.QW.off rfl rfl rfl ?_) | (refine E.QW.pure rfl rfl rfl (E.PV.fieldAddr fa116_1 rfl rfl) ?_))
  all_goals (first | (refine E.QW.off rfl rfl rfl ?_) | (refine E.QW.pure rfl rfl rfl (E.PV.load (i := 0) na22 rfl rfl rfl rfl) ?_))
  all_goals (first | (refine E.QW.off rfl rfl rfl ?_) | (refine E.QW.pure rfl rfl rfl (E.PV.move rfl rfl) ?_))
  all_goals (first | (refine E.QW.off rfl rfl rfl ?_) | ((refine E.QW.call nm114 rfl rfl rfl rfl rfl rfl _ (fun w hw => E.Post.val (CFU_ok _ _ _ (fun x => !Fl.okc x) 111 #[] w nm111 (fun w2 _ x => by simpa using odd_ok x w2) ?_ ?_)) ?_; (focus (assumption)); (focus (refine hw.rd ?_; assumption)))))
  all_goals (first | (refine E.QW.pure rfl rfl rfl (E.PV.pick_t rfl rfl rfl) ?_) | (refine E.QW.pure rfl rfl rfl (E.PV.pick_f rfl rfl rfl) ?_))
  all_goals (
    refine E.QW.nil ?_
    refine E.then_n ?_
    refine E.CW.cond rfl (fun hc => ?_) (fun hc => ?_)
    · first | (simp only [E.b0, E.b1, E.b2, E.b3, E.b4, E.b5, E.b6, E.b7, E.b8, E.b9, E.b10, E.b11, E.b12, E.b13, E.b14, E.b15, E.b16, E.b17, E.b18, E.b19, E.b20, reduceCtorEq] at hc) | (skip)
      all_goals (
        refine E.CW.seq ?_
        refine E.CW.region ?_
        refine E.OW.pure rfl rfl rfl (E.PV.assign rfl rfl) ?_
        refine E.OW.nil ?_
        refine E.then_n ?_
        refine E.CW.ret ?_
        refine E.then_ret ?_
        refine E.KR.one [] Try.results84 rfl rfl ?_
        exact ⟨by simp_all [Fl.checkF, Fl.validF, Fl.any_odd], rfl⟩)
    · first | ((cases hc; done)) | (skip)
      all_goals (
        refine E.CW.skip ?_
        refine E.then_n ?_
        refine E.CW.seq ?_
        refine E.CW.region ?_
        refine E.OW.pure rfl rfl rfl (E.PV.assign rfl rfl) ?_
        refine E.OW.nil ?_
        refine E.then_n ?_
        refine E.CW.ret ?_
        refine E.KR.one [] Try.results84 rfl rfl ?_
        exact ⟨by simp_all [Fl.checkF, Fl.validF, Fl.any_odd], rfl⟩))

set_option maxRecDepth 100000 in
theorem Check_ok (a b : Int) (A : Option Addr) (c : Nat) (l : List UInt8) (w0 : World) (hl : l.length ≤ 140737488355328) (hX : E.Rd w0 (E.Old w0) A (E.u8s l)) :
    Calls Try.prog 116 #[.agg #[.int .i64 a, .int .i64 b, .slice A l.length c]] w0 (E.Post w0 (E.Old w0) fun v Hn => v = .int .i64 (Fl.checkF a b l) ∧ Hn = []) := by
  refine E.calls_of (vs := [.agg #[.int .i64 a, .int .i64 b, .slice A l.length c]]) (H := []) Try.func116 Try.ntmps116 rfl rfl (E.HA.start w0) ?_
  refine E.CW.seq ?_
  refine E.CW.region ?_
  refine E.OW.box rfl rfl rfl rfl rfl rfl (fun B1 => ?_)
  refine E.OW.pure rfl rfl rfl (E.PV.assign rfl rfl) ?_
  refine E.OW.nil ?_
  refine E.then_n ?_
  refine E.CW.seq ?_
  refine E.CW.region ?_
  refine E.OW.pure rfl rfl rfl (E.PV.loads (i := 0) is24 rfl rfl rfl rfl) ?_
  (refine E.OW.call nm83 rfl rfl rfl rfl rfl rfl _ (fun w hw => boardOf_ok _ _ _ _ _ w) ?_; rintro _ _ ⟨rfl, rfl⟩)
  (refine E.OW.call nm84 rfl rfl rfl rfl rfl rfl _ (fun w hw => bcheck_ok _ _ _ _ _ w ?_ ?_) ?_; (focus (assumption)); (focus (refine hw.rd ?_; assumption)); rintro _ _ ⟨rfl, rfl⟩)
  refine E.OW.pure rfl rfl rfl (E.PV.assign rfl rfl) ?_
  refine E.OW.nil ?_
  refine E.then_n ?_
  refine E.CW.ret ?_
  refine E.KR.one [] Try.results116 rfl rfl ?_
  exact ⟨rfl, rfl⟩

set_option maxRecDepth 100000 in
theorem bowner_ok (a b : Int) (A : Option Addr) (c : Nat) (l : List UInt8) (p : Int) (w0 : World) (hp : 0 ≤ p ∧ p < l.length) (hX : E.Rd w0 (E.Old w0) A (E.u8s l)) :
    Calls Try.prog 86 #[.agg #[.int .i64 a, .int .i64 b, .slice A l.length c], .int .i64 p] w0 (E.Post w0 (E.Old w0) fun v Hn => v = .int .i64 (Fl.ownerC (l.getD p.toNat 0)) ∧ Hn = []) := by
  have hu := (l.getD p.toNat 0).toNat_lt
  refine E.calls_of (vs := [.agg #[.int .i64 a, .int .i64 b, .slice A l.length c], .int .i64 p]) (H := []) Try.func86 Try.ntmps86 rfl rfl (E.HA.start w0) ?_
  refine E.CW.seq ?_
  refine E.CW.region ?_
  refine E.OW.box rfl rfl rfl rfl rfl rfl (fun B1 => ?_)
  refine E.OW.pure rfl rfl rfl (E.PV.assign rfl rfl) ?_
  refine E.OW.nil ?_
  refine E.then_n ?_
  refine E.CW.seq ?_
  refine E.CW.region ?_
  refine E.OW.pure rfl rfl rfl (E.PV.fieldAddr fa116_1 rfl rfl) ?_
  refine E.OW.pure rfl rfl rfl (E.PV.load (i := 0) na22 rfl rfl rfl rfl) ?_
  refine E.OW.pure rfl rfl rfl (E.PV.move rfl rfl) ?_
  refine E.OW.pure rfl rfl rfl (E.PV.indexAddr1 (E.rdc hX) Try.underlying22 in5 rfl rfl rfl (E.tn ?_) ?_ ?_) ?_; (focus (omega)); (focus (first | (simp; done) | (simp; omega))); (focus (omega))
  refine E.OW.pure rfl rfl rfl (E.PV.load_u8 (E.rdc hX) na5 rfl rfl ?_) ?_; (focus (omega))
  refine E.OW.pure rfl rfl rfl (E.PV.assign rfl rfl) ?_
  refine E.OW.nil ?_
  refine E.then_n ?_
  refine E.CW.seq ?_
  refine E.CW.region ?_
  refine E.OW.pure rfl rfl rfl (E.PV.move rfl rfl) ?_
  refine E.OW.nil ?_
  refine E.then_n ?_
  refine E.CW.block ?_
  refine E.CW.seq ?_
  refine E.CW.region ?_
  refine E.OW.pure rfl rfl rfl (E.PV.eql rfl rfl rfl) ?_
  refine E.OW.pure rfl rfl rfl (E.PV.assign rfl rfl) ?_
  refine E.OW.nil ?_
  refine E.then_n ?_
  refine E.CW.cond rfl (fun hc => ?_) (fun hc => ?_)
  · simp only [E.b0, E.b1, E.b2, E.b3, E.b4, E.b5, E.b6, E.b7, E.b8, E.b9, E.b10, E.b11, E.b12, E.b13, E.b14, E.b15, E.b16, E.b17, E.b18, E.b19, E.b20, reduceCtorEq] at hc
    all_goals (
      refine E.CW.seq ?_
      refine E.CW.region ?_
      refine E.OW.pure rfl rfl rfl (E.PV.assign rfl rfl) ?_
      refine E.OW.nil ?_
      refine E.then_n ?_
      refine E.CW.ret ?_
      refine E.blk_ret ?_
      refine E.KR.one [] Try.results86 rfl rfl ?_
      exact ⟨by (unfold Fl.ownerC; first | (rw [if_pos (by omega)]; done) | (rw [if_neg (by omega), if_pos (by omega)]; done) | (rw [if_neg (by omega), if_neg (by omega)]; done)), rfl⟩)
  · simp only [E.b0, E.b1, E.b2, E.b3, E.b4, E.b5, E.b6, E.b7, E.b8, E.b9, E.b10, E.b11, E.b12, E.b13, E.b14, E.b15, E.b16, E.b17, E.b18, E.b19, E.b20, reduceCtorEq] at hc
    all_goals (
      refine E.CW.seq ?_
      refine E.CW.region ?_
      refine E.OW.pure rfl rfl rfl (E.PV.eql rfl rfl rfl) ?_
      refine E.OW.pure rfl rfl rfl (E.PV.assign rfl rfl) ?_
      refine E.OW.nil ?_
      refine E.then_n ?_
      refine E.CW.cond rfl (fun hc => ?_) (fun hc => ?_)
      · simp only [E.b0, E.b1, E.b2, E.b3, E.b4, E.b5, E.b6, E.b7, E.b8, E.b9, E.b10, E.b11, E.b12, E.b13, E.b14, E.b15, E.b16, E.b17, E.b18, E.b19, E.b20, reduceCtorEq] at hc
        all_goals (
          refine E.CW.seq ?_
          refine E.CW.region ?_
          refine E.OW.pure rfl rfl rfl (E.PV.assign rfl rfl) ?_
          refine E.OW.nil ?_
          refine E.then_n ?_
          refine E.CW.ret ?_
          refine E.blk_ret ?_
          refine E.KR.one [] Try.results86 rfl rfl ?_
          exact ⟨by (unfold Fl.ownerC; first | (rw [if_pos (by omega)]; done) | (rw [if_neg (by omega), if_pos (by omega)]; done) | (rw [if_neg (by omega), if_neg (by omega)]; done)), rfl⟩)
      · simp only [E.b0, E.b1, E.b2, E.b3, E.b4, E.b5, E.b6, E.b7, E.b8, E.b9, E.b10, E.b11, E.b12, E.b13, E.b14, E.b15, E.b16, E.b17, E.b18, E.b19, E.b20, reduceCtorEq] at hc
        all_goals (
          refine E.CW.seq ?_
          refine E.CW.region ?_
          refine E.OW.pure rfl rfl rfl (E.PV.move rfl rfl) ?_
          refine E.OW.pure rfl rfl rfl (E.PV.conv_in Try.underlying5 Try.underlying3 rfl rfl ?_) ?_; (focus (first | exact E.wrap_u8 _ | (simp only [IntKind.wrap_i64, IntKind.wrap_u64, IntKind.wrap_u8]; omega)))
          refine E.OW.pure rfl rfl rfl (E.PV.sub_i64 rfl rfl rfl ?_) ?_; (focus (omega))
          refine E.OW.pure rfl rfl rfl (E.PV.assign rfl rfl) ?_
          refine E.OW.nil ?_
          refine E.then_n ?_
          refine E.CW.ret ?_
          refine E.blk_ret ?_
          refine E.KR.one [] Try.results86 rfl rfl ?_
          exact ⟨by (unfold Fl.ownerC; first | (rw [if_pos (by omega)]; done) | (rw [if_neg (by omega), if_pos (by omega)]; done) | (rw [if_neg (by omega), if_neg (by omega)]; done)), rfl⟩))

set_option maxRecDepth 100000 in
theorem bof_ok (a b : Int) (A : Option Addr) (c : Nat) (l : List UInt8) (t : Int) (w0 : World) (h64 : l.length ≤ 64) (hX : E.Rd w0 (E.Old w0) A (E.u8s l)) :
    Calls Try.prog 149 #[.agg #[.int .i64 a, .int .i64 b, .slice A l.length c], .int .i64 t] w0 (E.Post w0 (E.Old w0) fun v Hn => ∃ A2 c2, v = .slice A2 (Fl.places (fun x => decide (Fl.ownerC x = t)) l l.length).length c2 ∧ Hn = [E.HP.row 3 1 A2 (Fl.places (fun x => decide (Fl.ownerC x = t)) l l.length).length c2 (E.ints (Fl.places (fun x => decide (Fl.ownerC x = t)) l l.length))]) := by
  refine E.calls_of (vs := [.agg #[.int .i64 a, .int .i64 b, .slice A l.length c], .int .i64 t]) (H := []) Try.func149 Try.ntmps149 rfl rfl (E.HA.start w0) ?_
  refine E.CW.seq ?_
  refine E.CW.region ?_
  refine E.OW.box rfl rfl rfl rfl rfl rfl (fun B1 => ?_)
  refine E.OW.pure rfl rfl rfl (E.PV.assign rfl rfl) ?_
  refine E.OW.nil ?_
  refine E.then_n ?_
  refine E.CW.seq ?_
  refine E.CW.nilrow 3 1 ?_
  refine E.CW.region ?_
  refine E.OW.pure rfl rfl rfl (E.PV.assign rfl rfl) ?_
  refine E.OW.nil ?_
  refine E.then_n ?_
  refine E.CW.seq ?_
  refine E.CW.seq ?_
  refine E.CW.region ?_
  refine E.OW.pure rfl rfl rfl (E.PV.fieldAddr fa116_1 rfl rfl) ?_
  refine E.OW.pure rfl rfl rfl (E.PV.load (i := 1) na22 rfl rfl rfl rfl) ?_
  refine E.OW.pure rfl rfl rfl (E.PV.len Try.underlying22 rfl rfl) ?_
  refine E.OW.pure rfl rfl rfl (E.PV.move rfl rfl) ?_
  refine E.OW.nil ?_
  refine E.then_n ?_
  refine E.CW.block ?_
  refine E.CW.loopk [1, 2, 9] 1 rfl rfl (fun mm mods Hm => ∃ k : Nat, ∃ D : Option Addr, ∃ e : Nat, mm = l.length - k ∧ mods = [(10, .int .i64 k), (5, .slice D (Fl.places (fun x => decide (Fl.ownerC x = t)) l k).length e)] ∧ Hm = [E.HP.row 3 1 D (Fl.places (fun x => decide (Fl.ownerC x = t)) l k).length e (E.ints (Fl.places (fun x => decide (Fl.ownerC x = t)) l k))] ∧ k ≤ l.length) (l.length) ?_ ?_
  · exact ⟨[(10, _), (5, _)], (by repeat (first | exact E.cov_nil | refine ⟨rfl, ?_⟩)), 0, none, 0, rfl, rfl, rfl, by omega⟩
  · rintro _ _ _ ⟨k, D, e, rfl, rfl, rfl, hk⟩
    have hpl := Fl.places_len (fun x => decide (Fl.ownerC x = t)) l k
    refine E.CW.seq ?_
    refine E.CW.region ?_
    refine E.OW.pure rfl rfl rfl (E.PV.lss rfl rfl rfl) ?_
    refine E.OW.nil ?_
    refine E.then_n ?_
    refine E.CW.seq ?_
    refine E.CW.cond rfl (fun hc => ?_) (fun hc => ?_)
    · simp only [E.b0, E.b1, E.b2, E.b3, E.b4, E.b5, E.b6, E.b7, E.b8, E.b9, E.b10, E.b11, E.b12, E.b13, E.b14, E.b15, E.b16, E.b17, E.b18, E.b19, E.b20, reduceCtorEq] at hc
      all_goals (
        refine E.CW.skip ?_
        refine E.then_n ?_
        refine E.CW.seq ?_
        refine E.CW.block ?_
        refine E.CW.seq ?_
        refine E.CW.region ?_
        refine E.OW.pure rfl rfl rfl (E.PV.move rfl rfl) ?_
        refine E.OW.pure rfl rfl rfl (E.PV.assign rfl rfl) ?_
        refine E.OW.nil ?_
        refine E.then_n ?_
        refine E.CW.seq ?_
        refine E.CW.region ?_
        refine E.OW.pure rfl rfl rfl (E.PV.loads (i := 1) is116 rfl rfl rfl rfl) ?_
        refine E.OW.pure rfl rfl rfl (E.PV.move rfl rfl) ?_
        (refine E.OW.call nm86 rfl rfl rfl rfl rfl rfl _ (fun w hw => bowner_ok _ _ _ _ _ _ w ?_ ?_) ?_; (focus (omega)); (focus (refine hw.rd ?_; assumption)); rintro _ _ ⟨rfl, rfl⟩)
        refine E.OW.pure rfl rfl rfl (E.PV.move rfl rfl) ?_
        refine E.OW.pure rfl rfl rfl (E.PV.eql rfl rfl rfl) ?_
        refine E.OW.nil ?_
        refine E.then_n ?_
        refine E.CW.cond rfl (fun hc => ?_) (fun hc => ?_)
        · simp only [E.b0, E.b1, E.b2, E.b3, E.b4, E.b5, E.b6, E.b7, E.b8, E.b9, E.b10, E.b11, E.b12, E.b13, E.b14, E.b15, E.b16, E.b17, E.b18, E.b19, E.b20, reduceCtorEq] at hc
          all_goals (
            refine E.CW.region ?_
            refine E.OW.pure rfl rfl rfl (E.PV.move rfl rfl) ?_
            refine E.OW.pure rfl rfl rfl (E.PV.move rfl rfl) ?_
            refine E.OW.buildSlice (Et := 3) (sz := 1) (ps := [(0, .tmp 19)]) rfl rfl rfl rfl rfl (by simp) (by unfold maxLen; omega) (fun w => bsl31_1_0 _ w) (fun A2 => ?_)
            refine E.OW.app_int1 (j := 0) (i := 0) Try.underlying31 in3 rfl rfl rfl rfl rfl rfl rfl rfl rfl rfl ?_ (fun A3 c3 => ?_); (focus ((first | omega | (simp only [List.length_append, List.length_cons, List.length_nil] at *; omega) | (unfold maxLen at *; omega))))
            refine E.OW.pure rfl rfl rfl (E.PV.assign rfl rfl) ?_
            refine E.OW.nil ?_
            refine E.blk_n ?_
            refine E.then_n ?_
            refine E.CW.region ?_
            refine E.OW.pure rfl rfl rfl (E.PV.add_i64 rfl rfl rfl ?_) ?_; (focus (omega))
            refine E.OW.pure rfl rfl rfl (E.PV.move rfl rfl) ?_
            refine E.OW.nil ?_
            refine E.then_nf ?_
            refine ⟨_, [(10, _), (5, _)], [0, 0], _, ?_, by repeat (first | exact E.cov_nil | refine ⟨rfl, ?_⟩), rfl, k + 1, A3, c3, rfl, by rw [Fl.places_yes (by simpa using hc)]; rfl, by rw [Fl.places_yes (by simpa using hc)], by omega⟩
            omega)
        · simp only [E.b0, E.b1, E.b2, E.b3, E.b4, E.b5, E.b6, E.b7, E.b8, E.b9, E.b10, E.b11, E.b12, E.b13, E.b14, E.b15, E.b16, E.b17, E.b18, E.b19, E.b20, reduceCtorEq] at hc
          all_goals (
            refine E.CW.skip ?_
            refine E.blk_n ?_
            refine E.then_n ?_
            refine E.CW.region ?_
            refine E.OW.pure rfl rfl rfl (E.PV.add_i64 rfl rfl rfl ?_) ?_; (focus (omega))
            refine E.OW.pure rfl rfl rfl (E.PV.move rfl rfl) ?_
            refine E.OW.nil ?_
            refine E.then_nf ?_
            refine ⟨_, [(10, _), (5, _)], [0, 0], _, ?_, by repeat (first | exact E.cov_nil | refine ⟨rfl, ?_⟩), rfl, k + 1, D, e, rfl, by rw [Fl.places_no (by simpa using hc)]; rfl, by rw [Fl.places_no (by simpa using hc)], by omega⟩
            omega))
    · simp only [E.b0, E.b1, E.b2, E.b3, E.b4, E.b5, E.b6, E.b7, E.b8, E.b9, E.b10, E.b11, E.b12, E.b13, E.b14, E.b15, E.b16, E.b17, E.b18, E.b19, E.b20, reduceCtorEq] at hc
      all_goals (
        refine E.CW.exit ?_
        refine E.then_x ?_
        refine E.then_x ?_
        refine E.blk_eq ?_
        refine E.then_n ?_
        refine E.CW.seq ?_
        refine E.CW.region ?_
        refine E.OW.pure rfl rfl rfl (E.PV.move rfl rfl) ?_
        refine E.OW.pure rfl rfl rfl (E.PV.assign rfl rfl) ?_
        refine E.OW.nil ?_
        refine E.then_n ?_
        refine E.CW.ret ?_
        refine E.KR.one [0] Try.results149 rfl rfl ?_
        obtain rfl : k = l.length := by omega
        exact ⟨_, _, rfl, rfl⟩)

set_option maxRecDepth 100000 in
theorem Owner_ok (a b : Int) (A : Option Addr) (c : Nat) (l : List UInt8) (p : Int) (w0 : World) (hl : l.length ≤ 140737488355328) (hX : E.Rd w0 (E.Old w0) A (E.u8s l)) :
    Calls Try.prog 41 #[.agg #[.int .i64 a, .int .i64 b, .slice A l.length c], .int .i64 p] w0 (E.Post w0 (E.Old w0) fun v Hn => v = .tuple #[.int .i64 (Fl.owner a b l p).1, .int .i64 (Fl.owner a b l p).2] ∧ Hn = []) := by
  refine E.calls_of (vs := [.agg #[.int .i64 a, .int .i64 b, .slice A l.length c], .int .i64 p]) (H := []) Try.func41 Try.ntmps41 rfl rfl (E.HA.start w0) ?_
  refine E.CW.seq ?_
  refine E.CW.region ?_
  refine E.OW.box rfl rfl rfl rfl rfl rfl (fun B1 => ?_)
  refine E.OW.pure rfl rfl rfl (E.PV.assign rfl rfl) ?_
  refine E.OW.pure rfl rfl rfl (E.PV.assign rfl rfl) ?_
  refine E.OW.nil ?_
  refine E.then_n ?_
  refine E.CW.seq ?_
  refine E.CW.region ?_
  refine E.OW.pure rfl rfl rfl (E.PV.loads (i := 0) is24 rfl rfl rfl rfl) ?_
  (refine E.OW.call nm83 rfl rfl rfl rfl rfl rfl _ (fun w hw => boardOf_ok _ _ _ _ _ w) ?_; rintro _ _ ⟨rfl, rfl⟩)
  refine E.OW.alloc (in116.zr) rfl rfl rfl rfl rfl (fun B2 => ?_)
  refine E.OW.store (i := 0) in116.size rfl rfl rfl rfl rfl rfl rfl rfl rfl ?_
  refine E.OW.nil ?_
  refine E.then_n ?_
  refine E.CW.seq ?_
  refine E.CW.seq ?_
  refine E.CW.region ?_
  refine E.OW.pure rfl rfl rfl (E.PV.loads (i := 0) is116 rfl rfl rfl rfl) ?_
  (refine E.OW.call nm84 rfl rfl rfl rfl rfl rfl _ (fun w hw => bcheck_ok _ _ _ _ _ w ?_ ?_) ?_; (focus (assumption)); (focus (refine hw.rd ?_; assumption)); rintro _ _ ⟨rfl, rfl⟩)
  refine E.OW.pure rfl rfl rfl (E.PV.assign rfl rfl) ?_
  refine E.OW.nil ?_
  refine E.then_n ?_
  refine E.CW.seq ?_
  refine E.CW.region ?_
  refine E.OW.pure rfl rfl rfl (E.PV.move rfl rfl) ?_
  refine E.OW.pure rfl rfl rfl (E.PV.neq rfl rfl rfl) ?_
  refine E.OW.nil ?_
  refine E.then_n ?_
  refine E.CW.cond rfl (fun hc => ?_) (fun hc => ?_)
  · simp only [E.b0, E.b1, E.b2, E.b3, E.b4, E.b5, E.b6, E.b7, E.b8, E.b9, E.b10, E.b11, E.b12, E.b13, E.b14, E.b15, E.b16, E.b17, E.b18, E.b19, E.b20, reduceCtorEq] at hc
    all_goals (
      refine E.CW.seq ?_
      refine E.CW.region ?_
      refine E.OW.pure rfl rfl rfl (E.PV.move rfl rfl) ?_
      refine E.OW.pure rfl rfl rfl (E.PV.assign rfl rfl) ?_
      refine E.OW.pure rfl rfl rfl (E.PV.assign rfl rfl) ?_
      refine E.OW.nil ?_
      refine E.then_n ?_
      refine E.CW.ret ?_
      refine E.then_ret ?_
      refine E.KR.two [] Try.results41 rfl rfl rfl ?_
      exact ⟨by (cases hq : Fl.validF a b l <;> simp_all [Fl.owner, Fl.checkF]), rfl⟩)
  · simp only [E.b0, E.b1, E.b2, E.b3, E.b4, E.b5, E.b6, E.b7, E.b8, E.b9, E.b10, E.b11, E.b12, E.b13, E.b14, E.b15, E.b16, E.b17, E.b18, E.b19, E.b20, reduceCtorEq] at hc
    all_goals (
      refine E.CW.skip ?_
      refine E.then_n ?_
      refine E.CW.seq ?_
      refine E.CW.seq ?_
      refine E.CW.region ?_
      refine E.OW.pure rfl rfl rfl (E.PV.fieldAddr fa116_0 rfl rfl) ?_
      refine E.OW.pure rfl rfl rfl (E.PV.loads (i := 0) is114 rfl rfl rfl rfl) ?_
      refine E.OW.pure rfl rfl rfl (E.PV.move rfl rfl) ?_
      (refine E.OW.call nm85 rfl rfl rfl rfl rfl rfl _ (fun w hw => has_ok _ _ _ w) ?_; rintro _ _ ⟨rfl, rfl⟩)
      refine E.OW.pure rfl rfl rfl (E.PV.not rfl rfl) ?_
      refine E.OW.nil ?_
      refine E.then_n ?_
      refine E.CW.cond rfl (fun hc => ?_) (fun hc => ?_)
      · simp only [E.b0, E.b1, E.b2, E.b3, E.b4, E.b5, E.b6, E.b7, E.b8, E.b9, E.b10, E.b11, E.b12, E.b13, E.b14, E.b15, E.b16, E.b17, E.b18, E.b19, E.b20, reduceCtorEq] at hc
        all_goals (
          refine E.CW.seq ?_
          refine E.CW.region ?_
          refine E.OW.pure rfl rfl rfl (E.PV.assign rfl rfl) ?_
          refine E.OW.pure rfl rfl rfl (E.PV.assign rfl rfl) ?_
          refine E.OW.nil ?_
          refine E.then_n ?_
          refine E.CW.ret ?_
          refine E.then_ret ?_
          refine E.KR.two [] Try.results41 rfl rfl rfl ?_
          exact ⟨by (cases hq : Fl.validF a b l <;> simp_all [Fl.owner, Fl.checkF]), rfl⟩)
      · simp only [E.b0, E.b1, E.b2, E.b3, E.b4, E.b5, E.b6, E.b7, E.b8, E.b9, E.b10, E.b11, E.b12, E.b13, E.b14, E.b15, E.b16, E.b17, E.b18, E.b19, E.b20, reduceCtorEq] at hc
        all_goals (
          refine E.CW.skip ?_
          refine E.then_n ?_
          refine E.CW.seq ?_
          have hv : Fl.validF a b l = true := Fl.checkF_zero.1 (by assumption)
          have hh := Fl.has_lt hv (by assumption)
          refine E.CW.region ?_
          refine E.OW.pure rfl rfl rfl (E.PV.loads (i := 0) is116 rfl rfl rfl rfl) ?_
          refine E.OW.pure rfl rfl rfl (E.PV.move rfl rfl) ?_
          (refine E.OW.call nm86 rfl rfl rfl rfl rfl rfl _ (fun w hw => bowner_ok _ _ _ _ _ _ w ?_ ?_) ?_; (focus (omega)); (focus (refine hw.rd ?_; assumption)); rintro _ _ ⟨rfl, rfl⟩)
          refine E.OW.pure rfl rfl rfl (E.PV.assign rfl rfl) ?_
          refine E.OW.pure rfl rfl rfl (E.PV.assign rfl rfl) ?_
          refine E.OW.nil ?_
          refine E.then_n ?_
          refine E.CW.ret ?_
          refine E.KR.two [] Try.results41 rfl rfl rfl ?_
          exact ⟨by (cases hq : Fl.validF a b l <;> simp_all [Fl.owner, Fl.checkF]), rfl⟩))

set_option maxRecDepth 100000 in
theorem Private_ok (a b : Int) (A : Option Addr) (c : Nat) (l : List UInt8) (t : Int) (w0 : World) (hl : l.length ≤ 140737488355328) (hX : E.Rd w0 (E.Old w0) A (E.u8s l)) :
    Calls Try.prog 135 #[.agg #[.int .i64 a, .int .i64 b, .slice A l.length c], .int .i64 t] w0 (E.Post w0 (E.Old w0) fun v Hn => ∃ A2 c2, v = .tuple #[.slice A2 ((Fl.priv a b l t).1).length c2, .int .i64 (Fl.priv a b l t).2] ∧ Hn = [E.HP.row 3 1 A2 ((Fl.priv a b l t).1).length c2 (E.ints ((Fl.priv a b l t).1))]) := by
  refine E.calls_of (vs := [.agg #[.int .i64 a, .int .i64 b, .slice A l.length c], .int .i64 t]) (H := []) Try.func135 Try.ntmps135 rfl rfl (E.HA.start w0) ?_
  refine E.CW.seq ?_
  refine E.CW.region ?_
  refine E.OW.box rfl rfl rfl rfl rfl rfl (fun B1 => ?_)
  refine E.OW.pure rfl rfl rfl (E.PV.assign rfl rfl) ?_
  refine E.OW.pure rfl rfl rfl (E.PV.assign rfl rfl) ?_
  refine E.OW.nil ?_
  refine E.then_n ?_
  refine E.CW.seq ?_
  refine E.CW.region ?_
  refine E.OW.pure rfl rfl rfl (E.PV.loads (i := 0) is24 rfl rfl rfl rfl) ?_
  (refine E.OW.call nm83 rfl rfl rfl rfl rfl rfl _ (fun w hw => boardOf_ok _ _ _ _ _ w) ?_; rintro _ _ ⟨rfl, rfl⟩)
  refine E.OW.alloc (in116.zr) rfl rfl rfl rfl rfl (fun B2 => ?_)
  refine E.OW.store (i := 0) in116.size rfl rfl rfl rfl rfl rfl rfl rfl rfl ?_
  refine E.OW.nil ?_
  refine E.then_n ?_
  refine E.CW.seq ?_
  refine E.CW.seq ?_
  refine E.CW.region ?_
  refine E.OW.pure rfl rfl rfl (E.PV.loads (i := 0) is116 rfl rfl rfl rfl) ?_
  (refine E.OW.call nm84 rfl rfl rfl rfl rfl rfl _ (fun w hw => bcheck_ok _ _ _ _ _ w ?_ ?_) ?_; (focus (assumption)); (focus (refine hw.rd ?_; assumption)); rintro _ _ ⟨rfl, rfl⟩)
  refine E.OW.pure rfl rfl rfl (E.PV.assign rfl rfl) ?_
  refine E.OW.nil ?_
  refine E.then_n ?_
  refine E.CW.seq ?_
  refine E.CW.region ?_
  refine E.OW.pure rfl rfl rfl (E.PV.move rfl rfl) ?_
  refine E.OW.pure rfl rfl rfl (E.PV.neq rfl rfl rfl) ?_
  refine E.OW.nil ?_
  refine E.then_n ?_
  refine E.CW.cond rfl (fun hc => ?_) (fun hc => ?_)
  · simp only [E.b0, E.b1, E.b2, E.b3, E.b4, E.b5, E.b6, E.b7, E.b8, E.b9, E.b10, E.b11, E.b12, E.b13, E.b14, E.b15, E.b16, E.b17, E.b18, E.b19, E.b20, reduceCtorEq] at hc
    all_goals (
      refine E.CW.seq ?_
      refine E.CW.nilrow 3 1 ?_
      refine E.CW.region ?_
      refine E.OW.pure rfl rfl rfl (E.PV.move rfl rfl) ?_
      refine E.OW.pure rfl rfl rfl (E.PV.assign rfl rfl) ?_
      refine E.OW.pure rfl rfl rfl (E.PV.assign rfl rfl) ?_
      refine E.OW.nil ?_
      refine E.then_n ?_
      refine E.CW.ret ?_
      refine E.then_ret ?_
      refine E.KR.two [0] Try.results135 rfl rfl rfl ?_
      have e : Fl.checkF a b l = 50 ∧ Fl.priv a b l t = ([], 50) := by (cases hq : Fl.validF a b l <;> simp_all [Fl.priv, Fl.checkF])
      rw [e.1, e.2]
      exact ⟨none, 0, rfl, rfl⟩)
  · simp only [E.b0, E.b1, E.b2, E.b3, E.b4, E.b5, E.b6, E.b7, E.b8, E.b9, E.b10, E.b11, E.b12, E.b13, E.b14, E.b15, E.b16, E.b17, E.b18, E.b19, E.b20, reduceCtorEq] at hc
    all_goals (
      refine E.CW.skip ?_
      refine E.then_n ?_
      refine E.CW.seq ?_
      refine E.CW.seq ?_
      refine E.CW.region ?_
      refine E.OW.pure rfl rfl rfl (E.PV.move rfl rfl) ?_
      (refine E.OW.call nm115 rfl rfl rfl rfl rfl rfl _ (fun w hw => in_ok _ _ w) ?_; rintro _ _ ⟨rfl, rfl⟩)
      refine E.OW.pure rfl rfl rfl (E.PV.not rfl rfl) ?_
      refine E.OW.nil ?_
      refine E.then_n ?_
      refine E.CW.cond rfl (fun hc => ?_) (fun hc => ?_)
      · simp only [E.b0, E.b1, E.b2, E.b3, E.b4, E.b5, E.b6, E.b7, E.b8, E.b9, E.b10, E.b11, E.b12, E.b13, E.b14, E.b15, E.b16, E.b17, E.b18, E.b19, E.b20, reduceCtorEq] at hc
        all_goals (
          refine E.CW.seq ?_
          refine E.CW.nilrow 3 1 ?_
          refine E.CW.region ?_
          refine E.OW.pure rfl rfl rfl (E.PV.assign rfl rfl) ?_
          refine E.OW.pure rfl rfl rfl (E.PV.assign rfl rfl) ?_
          refine E.OW.nil ?_
          refine E.then_n ?_
          refine E.CW.ret ?_
          refine E.then_ret ?_
          refine E.KR.two [0] Try.results135 rfl rfl rfl ?_
          have hv : Fl.validF a b l = true := Fl.checkF_zero.1 (by assumption)
          rw [show Fl.priv a b l t = ([], 2) by simp [Fl.priv, *]]
          exact ⟨none, 0, rfl, rfl⟩)
      · simp only [E.b0, E.b1, E.b2, E.b3, E.b4, E.b5, E.b6, E.b7, E.b8, E.b9, E.b10, E.b11, E.b12, E.b13, E.b14, E.b15, E.b16, E.b17, E.b18, E.b19, E.b20, reduceCtorEq] at hc
        all_goals (
          refine E.CW.skip ?_
          refine E.then_n ?_
          refine E.CW.seq ?_
          have hv : Fl.validF a b l = true := Fl.checkF_zero.1 (by assumption)
          have h64 := Fl.validF_len hv
          refine E.CW.region ?_
          refine E.OW.pure rfl rfl rfl (E.PV.loads (i := 0) is116 rfl rfl rfl rfl) ?_
          refine E.OW.pure rfl rfl rfl (E.PV.move rfl rfl) ?_
          (refine E.OW.call nm149 rfl rfl rfl rfl rfl rfl _ (fun w hw => bof_ok _ _ _ _ _ _ w ?_ ?_) ?_; (focus (assumption)); (focus (refine hw.rd ?_; assumption)); rintro _ _ ⟨_, _, rfl, rfl⟩)
          refine E.OW.pure rfl rfl rfl (E.PV.assign rfl rfl) ?_
          refine E.OW.pure rfl rfl rfl (E.PV.assign rfl rfl) ?_
          refine E.OW.nil ?_
          refine E.then_n ?_
          refine E.CW.ret ?_
          refine E.KR.two [0] Try.results135 rfl rfl rfl ?_
          have hv : Fl.validF a b l = true := Fl.checkF_zero.1 (by assumption)
          rw [show Fl.priv a b l t = (_, 0) by simp only [Fl.priv, *, if_true]; rfl]
          exact ⟨_, _, rfl, rfl⟩))

set_option maxRecDepth 100000 in
theorem rOwn_ok (a b : Int) (A : Option Addr) (c : Nat) (l : List UInt8) (t p : Int) (w0 : World) (hp : 0 ≤ p ∧ p < l.length) (hX : E.Rd w0 (E.Old w0) A (E.u8s l)) :
    Calls Try.prog 93 #[.agg #[.int .i64 a, .int .i64 b, .slice A l.length c], .int .i64 t, .int .i64 p] w0 (E.Post w0 (E.Old w0) fun v Hn => v = .bool (Fl.own t (l.getD p.toNat 0)) ∧ Hn = []) := by
  have hu := (l.getD p.toNat 0).toNat_lt
  refine E.calls_of (vs := [.agg #[.int .i64 a, .int .i64 b, .slice A l.length c], .int .i64 t, .int .i64 p]) (H := []) Try.func93 Try.ntmps93 rfl rfl (E.HA.start w0) ?_
  refine E.CW.seq ?_
  refine E.CW.region ?_
  refine E.OW.box rfl rfl rfl rfl rfl rfl (fun B1 => ?_)
  refine E.OW.pure rfl rfl rfl (E.PV.assign rfl rfl) ?_
  refine E.OW.nil ?_
  refine E.then_n ?_
  refine E.CW.seq ?_
  refine E.CW.region ?_
  refine E.OW.pure rfl rfl rfl (E.PV.move rfl rfl) ?_
  refine E.OW.pure rfl rfl rfl (E.PV.geq rfl rfl rfl) ?_
  refine E.OW.pure rfl rfl rfl (E.PV.move rfl rfl) ?_
  all_goals (refine E.OW.split 9 rfl (fun hc => ?_) (fun hc => ?_) <;> (try simp only [E.b0, E.b1, E.b2, E.b3, E.b4, E.b5, E.b6, E.b7, E.b8, E.b9, E.b10, E.b11, E.b12, E.b13, E.b14, E.b15, E.b16, E.b17, E.b18, E.b19, E.b20, reduceCtorEq] at hc) <;> (try (exfalso; first | assumption | contradiction | omega)))
  all_goals (first | (refine E.OW.off rfl rfl rfl ?_) | (refine E.OW.pure rfl rfl rfl (E.PV.move rfl rfl) ?_))
  all_goals (first | (refine E.OW.off rfl rfl rfl ?_) | (refine E.OW.pure rfl rfl rfl (E.PV.lss rfl rfl rfl) ?_))
  all_goals (first | (refine E.OW.pure rfl rfl rfl (E.PV.pick_t rfl rfl rfl) ?_) | (refine E.OW.pure rfl rfl rfl (E.PV.pick_f rfl rfl rfl) ?_))
  all_goals (refine E.OW.pure rfl rfl rfl (E.PV.move rfl rfl) ?_)
  all_goals (first | (refine E.OW.put 13 (.bool false) (v := .bool false) rfl rfl ?_) | (refine E.OW.split 13 rfl (fun hc => ?_) (fun hc => ?_) <;> (try simp only [E.b0, E.b1, E.b2, E.b3, E.b4, E.b5, E.b6, E.b7, E.b8, E.b9, E.b10, E.b11, E.b12, E.b13, E.b14, E.b15, E.b16, E.b17, E.b18, E.b19, E.b20, reduceCtorEq] at hc) <;> (try (exfalso; first | assumption | contradiction | omega))))
  all_goals (first | (refine E.OW.off rfl rfl rfl ?_) | (refine E.OW.pure rfl rfl rfl (E.PV.fieldAddr fa24_2 rfl rfl) ?_))
  all_goals (first | (refine E.OW.off rfl rfl rfl ?_) | (refine E.OW.pure rfl rfl rfl (E.PV.load (i := 0) na22 rfl rfl rfl rfl) ?_))
  all_goals (first | (refine E.OW.off rfl rfl rfl ?_) | (refine E.OW.pure rfl rfl rfl (E.PV.move rfl rfl) ?_))
  all_goals (first | (refine E.OW.off rfl rfl rfl ?_) | (refine E.OW.pure rfl rfl rfl (E.PV.indexAddr1 (E.rdc hX) Try.underlying22 in5 rfl rfl rfl (E.tn ?_) ?_ ?_) ?_; (focus (omega)); (focus (first | (simp; done) | (simp; omega))); (focus (omega))))
  all_goals (first | (refine E.OW.off rfl rfl rfl ?_) | (refine E.OW.pure rfl rfl rfl (E.PV.load_u8 (E.rdc hX) na5 rfl rfl ?_) ?_; (focus (omega))))
  all_goals (first | (refine E.OW.off rfl rfl rfl ?_) | (refine E.OW.pure rfl rfl rfl (E.PV.conv_in Try.underlying5 Try.underlying3 rfl rfl ?_) ?_; (focus (first | exact E.wrap_u8 _ | (simp only [IntKind.wrap_i64, IntKind.wrap_u64, IntKind.wrap_u8]; omega)))))
  all_goals (first | (refine E.OW.off rfl rfl rfl ?_) | (refine E.OW.pure rfl rfl rfl (E.PV.move rfl rfl) ?_))
  all_goals (first | (refine E.OW.off rfl rfl rfl ?_) | (refine E.OW.pure rfl rfl rfl (E.PV.add_i64 rfl rfl rfl ?_) ?_; (focus (omega))))
  all_goals (first | (refine E.OW.off rfl rfl rfl ?_) | (refine E.OW.pure rfl rfl rfl (E.PV.eql rfl rfl rfl) ?_))
  all_goals (first | (refine E.OW.pure rfl rfl rfl (E.PV.pick_t rfl rfl rfl) ?_) | (refine E.OW.pure rfl rfl rfl (E.PV.pick_f rfl rfl rfl) ?_))
  all_goals (refine E.OW.pure rfl rfl rfl (E.PV.assign rfl rfl) ?_)
  all_goals (
    refine E.OW.nil ?_
    refine E.then_n ?_
    refine E.CW.ret ?_
    refine E.KR.one [] Try.results93 rfl rfl ?_
    exact ⟨by (unfold Fl.own; simp [*] <;> omega), rfl⟩)

set_option maxRecDepth 100000 in
theorem rAisle_ok (a b : Int) (A : Option Addr) (c : Nat) (l : List UInt8) (p : Int) (w0 : World) (hp : 0 ≤ p ∧ p < l.length) (hX : E.Rd w0 (E.Old w0) A (E.u8s l)) :
    Calls Try.prog 94 #[.agg #[.int .i64 a, .int .i64 b, .slice A l.length c], .int .i64 p] w0 (E.Post w0 (E.Old w0) fun v Hn => v = .bool (decide (Fl.ownerC (l.getD p.toNat 0) = -2)) ∧ Hn = []) := by
  refine E.calls_of (vs := [.agg #[.int .i64 a, .int .i64 b, .slice A l.length c], .int .i64 p]) (H := []) Try.func94 Try.ntmps94 rfl rfl (E.HA.start w0) ?_
  refine E.CW.seq ?_
  refine E.CW.region ?_
  refine E.OW.box rfl rfl rfl rfl rfl rfl (fun B1 => ?_)
  refine E.OW.pure rfl rfl rfl (E.PV.assign rfl rfl) ?_
  refine E.OW.nil ?_
  refine E.then_n ?_
  refine E.CW.seq ?_
  refine E.CW.region ?_
  refine E.OW.pure rfl rfl rfl (E.PV.fieldAddr fa24_2 rfl rfl) ?_
  refine E.OW.pure rfl rfl rfl (E.PV.load (i := 0) na22 rfl rfl rfl rfl) ?_
  refine E.OW.pure rfl rfl rfl (E.PV.move rfl rfl) ?_
  refine E.OW.pure rfl rfl rfl (E.PV.indexAddr1 (E.rdc hX) Try.underlying22 in5 rfl rfl rfl (E.tn ?_) ?_ ?_) ?_; (focus (omega)); (focus (first | (simp; done) | (simp; omega))); (focus (omega))
  refine E.OW.pure rfl rfl rfl (E.PV.load_u8 (E.rdc hX) na5 rfl rfl ?_) ?_; (focus (omega))
  refine E.OW.pure rfl rfl rfl (E.PV.eql rfl rfl rfl) ?_
  refine E.OW.pure rfl rfl rfl (E.PV.assign rfl rfl) ?_
  refine E.OW.nil ?_
  refine E.then_n ?_
  refine E.CW.ret ?_
  refine E.KR.one [] Try.results94 rfl rfl ?_
  exact ⟨by rw [Fl.aisle_iff], rfl⟩

set_option maxRecDepth 100000 in
theorem Ix_ok (A : Option Addr) (c : Nat) (l : List Int) (x : Int) (w0 : World) (hl : l.length ≤ 140737488355328) (hX : E.Rd w0 (E.Old w0) A (E.ints l)) :
    Calls Try.prog 150 #[.slice A l.length c, .int .i64 x] w0 (E.Post w0 (E.Old w0) fun v Hn => v = .int .i64 (Cf.idx (fun y => decide (x = y)) l) ∧ Hn = []) := by
  refine E.calls_of (vs := [.slice A l.length c, .int .i64 x]) (H := []) Try.func150 Try.ntmps150 rfl rfl (E.HA.start w0) ?_
  refine E.CW.seq ?_
  refine E.CW.region ?_
  refine E.OW.pure rfl rfl rfl (E.PV.assign rfl rfl) ?_
  refine E.OW.nil ?_
  refine E.then_n ?_
  refine E.CW.seq ?_
  refine E.CW.seq ?_
  refine E.CW.region ?_
  refine E.OW.pure rfl rfl rfl (E.PV.move rfl rfl) ?_
  refine E.OW.pure rfl rfl rfl (E.PV.len Try.underlying31 rfl rfl) ?_
  refine E.OW.pure rfl rfl rfl (E.PV.move rfl rfl) ?_
  refine E.OW.nil ?_
  refine E.then_n ?_
  refine E.CW.block ?_
  refine E.CW.loopk [0, 1, 7] 0 rfl rfl (fun mm mods Hm => ∃ k : Nat, mm = l.length - k ∧ mods = [(8, .int .i64 k)] ∧ Hm = [] ∧ (k ≤ l.length ∧ ∀ j, j < k → decide (x = l.getD j 0) = false)) (l.length) ?_ ?_
  · exact ⟨[(8, _)], (by repeat (first | exact E.cov_nil | refine ⟨rfl, ?_⟩)), 0, rfl, rfl, rfl, by omega, fun j hj => by omega⟩
  · rintro _ _ _ ⟨k, rfl, rfl, rfl, hk, hI⟩
    refine E.CW.seq ?_
    refine E.CW.region ?_
    refine E.OW.pure rfl rfl rfl (E.PV.lss rfl rfl rfl) ?_
    refine E.OW.nil ?_
    refine E.then_n ?_
    refine E.CW.seq ?_
    refine E.CW.cond rfl (fun hc => ?_) (fun hc => ?_)
    · simp only [E.b0, E.b1, E.b2, E.b3, E.b4, E.b5, E.b6, E.b7, E.b8, E.b9, E.b10, E.b11, E.b12, E.b13, E.b14, E.b15, E.b16, E.b17, E.b18, E.b19, E.b20, reduceCtorEq] at hc
      all_goals (
        refine E.CW.skip ?_
        refine E.then_n ?_
        refine E.CW.seq ?_
        refine E.CW.block ?_
        refine E.CW.seq ?_
        refine E.CW.region ?_
        refine E.OW.pure rfl rfl rfl (E.PV.move rfl rfl) ?_
        refine E.OW.pure rfl rfl rfl (E.PV.assign rfl rfl) ?_
        refine E.OW.nil ?_
        refine E.then_n ?_
        refine E.CW.seq ?_
        refine E.CW.region ?_
        refine E.OW.pure rfl rfl rfl (E.PV.move rfl rfl) ?_
        refine E.OW.pure rfl rfl rfl (E.PV.move rfl rfl) ?_
        refine E.OW.pure rfl rfl rfl (E.PV.move rfl rfl) ?_
        refine E.OW.pure rfl rfl rfl (E.PV.indexAddr1 (E.rdc hX) Try.underlying31 in3 rfl rfl rfl rfl ?_ ?_) ?_; (focus (first | (simp; done) | (simp; omega))); (focus (omega))
        refine E.OW.pure rfl rfl rfl (E.PV.load_int (E.rdc hX) na3 rfl rfl ?_) ?_; (focus (omega))
        refine E.OW.pure rfl rfl rfl (E.PV.eql rfl rfl rfl) ?_
        refine E.OW.nil ?_
        refine E.then_n ?_
        refine E.CW.cond rfl (fun hc => ?_) (fun hc => ?_)
        · simp only [E.b0, E.b1, E.b2, E.b3, E.b4, E.b5, E.b6, E.b7, E.b8, E.b9, E.b10, E.b11, E.b12, E.b13, E.b14, E.b15, E.b16, E.b17, E.b18, E.b19, E.b20, reduceCtorEq] at hc
          all_goals (
            refine E.CW.seq ?_
            refine E.CW.region ?_
            refine E.OW.pure rfl rfl rfl (E.PV.move rfl rfl) ?_
            refine E.OW.pure rfl rfl rfl (E.PV.assign rfl rfl) ?_
            refine E.OW.nil ?_
            refine E.then_n ?_
            refine E.CW.ret ?_
            refine E.blk_ret ?_
            refine E.then_ret ?_
            refine E.then_ret ?_
            refine E.blk_ret ?_
            refine E.then_ret ?_
            refine E.KR.one [] Try.results150 rfl rfl ?_
            exact ⟨by rw [Cf.idx_some (k := k) (by omega) hI (decide_eq_true (by assumption))], rfl⟩)
        · simp only [E.b0, E.b1, E.b2, E.b3, E.b4, E.b5, E.b6, E.b7, E.b8, E.b9, E.b10, E.b11, E.b12, E.b13, E.b14, E.b15, E.b16, E.b17, E.b18, E.b19, E.b20, reduceCtorEq] at hc
          all_goals (
            refine E.CW.skip ?_
            refine E.blk_n ?_
            refine E.then_n ?_
            refine E.CW.region ?_
            refine E.OW.pure rfl rfl rfl (E.PV.add_i64 rfl rfl rfl ?_) ?_; (focus (omega))
            refine E.OW.pure rfl rfl rfl (E.PV.move rfl rfl) ?_
            refine E.OW.nil ?_
            refine E.then_nf ?_
            refine ⟨_, [(8, _)], [], _, ?_, by repeat (first | exact E.cov_nil | refine ⟨rfl, ?_⟩), rfl, k + 1, rfl, rfl, rfl, by omega, Cf.next_all hI (decide_eq_false (by assumption))⟩
            omega))
    · simp only [E.b0, E.b1, E.b2, E.b3, E.b4, E.b5, E.b6, E.b7, E.b8, E.b9, E.b10, E.b11, E.b12, E.b13, E.b14, E.b15, E.b16, E.b17, E.b18, E.b19, E.b20, reduceCtorEq] at hc
      all_goals (
        refine E.CW.exit ?_
        refine E.then_x ?_
        refine E.then_x ?_
        refine E.blk_eq ?_
        refine E.then_n ?_
        refine E.CW.seq ?_
        refine E.CW.region ?_
        refine E.OW.pure rfl rfl rfl (E.PV.assign rfl rfl) ?_
        refine E.OW.nil ?_
        refine E.then_n ?_
        refine E.CW.ret ?_
        refine E.KR.one [] Try.results150 rfl rfl ?_
        exact ⟨by rw [Cf.idx_none (fun j hj => hI j (by omega))], rfl⟩)

set_option maxRecDepth 100000 in
theorem Cn_ok (A : Option Addr) (c : Nat) (l : List Int) (x : Int) (w0 : World) (hl : l.length ≤ 140737488355328) (hX : E.Rd w0 (E.Old w0) A (E.ints l)) :
    Calls Try.prog 138 #[.slice A l.length c, .int .i64 x] w0 (E.Post w0 (E.Old w0) fun v Hn => v = .bool (decide (x ∈ l)) ∧ Hn = []) := by
  refine E.calls_of (vs := [.slice A l.length c, .int .i64 x]) (H := []) Try.func138 Try.ntmps138 rfl rfl (E.HA.start w0) ?_
  refine E.CW.seq ?_
  refine E.CW.region ?_
  refine E.OW.pure rfl rfl rfl (E.PV.assign rfl rfl) ?_
  refine E.OW.nil ?_
  refine E.then_n ?_
  refine E.CW.seq ?_
  refine E.CW.region ?_
  refine E.OW.pure rfl rfl rfl (E.PV.move rfl rfl) ?_
  refine E.OW.pure rfl rfl rfl (E.PV.move rfl rfl) ?_
  (refine E.OW.call nm150 rfl rfl rfl rfl rfl rfl _ (fun w hw => Ix_ok _ _ _ _ w ?_ ?_) ?_; (focus (assumption)); (focus (refine hw.rd ?_; assumption)); rintro _ _ ⟨rfl, rfl⟩)
  refine E.OW.pure rfl rfl rfl (E.PV.geq rfl rfl rfl) ?_
  refine E.OW.pure rfl rfl rfl (E.PV.assign rfl rfl) ?_
  refine E.OW.nil ?_
  refine E.then_n ?_
  refine E.CW.ret ?_
  refine E.KR.one [] Try.results138 rfl rfl ?_
  exact ⟨by rw [Cf.idx_mem], rfl⟩

set_option maxRecDepth 100000 in
theorem Ds_ok (A : Option Addr) (c : Nat) (l : List Int) (w0 : World) (hi64 : Cf.i64s l) (hl : l.length ≤ 140737488355328) (hX : E.Rd w0 (E.Old w0) A (E.ints l)) :
    Calls Try.prog 140 #[.slice A l.length c] w0 (E.Post w0 (E.Old w0) fun v Hn => v = .bool (decide l.Nodup) ∧ Hn = []) := by
  refine E.calls_of (vs := [.slice A l.length c]) (H := []) Try.func140 Try.ntmps140 rfl rfl (E.HA.start w0) ?_
  refine E.CW.seq ?_
  refine E.CW.region ?_
  refine E.OW.pure rfl rfl rfl (E.PV.assign rfl rfl) ?_
  refine E.OW.nil ?_
  refine E.then_n ?_
  refine E.CW.seq ?_
  refine E.CW.region ?_
  refine E.OW.makeMap (kt := 3) (e := 3) rfl rfl rfl rfl (fun B1 => ?_)
  refine E.OW.pure rfl rfl rfl (E.PV.assign rfl rfl) ?_
  refine E.OW.nil ?_
  refine E.then_n ?_
  refine E.CW.seq ?_
  refine E.CW.seq ?_
  refine E.CW.region ?_
  refine E.OW.pure rfl rfl rfl (E.PV.move rfl rfl) ?_
  refine E.OW.pure rfl rfl rfl (E.PV.len Try.underlying31 rfl rfl) ?_
  refine E.OW.pure rfl rfl rfl (E.PV.move rfl rfl) ?_
  refine E.OW.nil ?_
  refine E.then_n ?_
  refine E.CW.block ?_
  refine E.CW.loopk [0, 3, 7, 8] 1 rfl rfl (fun mm mods Hm => ∃ k : Nat, ∃ D : List (Lit × DataW Unit), mm = l.length - k ∧ mods = [(9, .int .i64 k)] ∧ Hm = [E.HP.map Try.prog 3 3 B1 k D] ∧ (k ≤ l.length ∧ Cf.Dk l k D)) (l.length) ?_ ?_
  · exact ⟨[(9, _)], (by repeat (first | exact E.cov_nil | refine ⟨rfl, ?_⟩)), 0, _, rfl, rfl, rfl, by omega, Cf.Dk_start l⟩
  · rintro _ _ _ ⟨k, D, rfl, rfl, rfl, hk, hD⟩
    refine E.CW.seq ?_
    refine E.CW.region ?_
    refine E.OW.pure rfl rfl rfl (E.PV.lss rfl rfl rfl) ?_
    refine E.OW.nil ?_
    refine E.then_n ?_
    refine E.CW.seq ?_
    refine E.CW.cond rfl (fun hc => ?_) (fun hc => ?_)
    · simp only [E.b0, E.b1, E.b2, E.b3, E.b4, E.b5, E.b6, E.b7, E.b8, E.b9, E.b10, E.b11, E.b12, E.b13, E.b14, E.b15, E.b16, E.b17, E.b18, E.b19, E.b20, reduceCtorEq] at hc
      all_goals (
        refine E.CW.skip ?_
        refine E.then_n ?_
        refine E.CW.seq ?_
        refine E.CW.block ?_
        refine E.CW.seq ?_
        refine E.CW.region ?_
        refine E.OW.pure rfl rfl rfl (E.PV.indexAddr1 (E.rdc hX) Try.underlying31 in3 rfl rfl rfl rfl ?_ ?_) ?_; (focus (first | (simp; done) | (simp; omega))); (focus (omega))
        refine E.OW.pure rfl rfl rfl (E.PV.load_int (E.rdc hX) na3 rfl rfl ?_) ?_; (focus (omega))
        refine E.OW.pure rfl rfl rfl (E.PV.assign rfl rfl) ?_
        refine E.OW.nil ?_
        refine E.then_n ?_
        have hpb := hi64 _ (Fl.getD_mem' (show k < l.length by omega))
        refine E.CW.region ?_
        refine E.OW.pure rfl rfl rfl (E.PV.move rfl rfl) ?_
        refine E.OW.pure rfl rfl rfl (E.PV.move rfl rfl) ?_
        refine E.OW.lookup (i := 0) Try.underlying178 Try.underlying3 Try.underlying3 in3 rfl rfl rfl rfl rfl rfl ?_ rfl (fun cM => ?_); (focus (first | assumption | (exact E.wf_of (by omega)) | exact E.wf_wrap _))
        refine E.OW.pure rfl rfl rfl (E.PV.add rfl rfl rfl) ?_
        refine E.OW.mapUpdate (i := 0) Try.underlying178 Try.underlying3 Try.underlying3 rfl rfl rfl rfl rfl rfl ?_ ?_ ?_ rfl ?_; (focus (first | assumption | (exact E.wf_of (by omega)) | exact E.wf_wrap _)); (focus (first | assumption | (exact E.wf_of (by omega)) | exact E.wf_wrap _)); (focus (unfold maxLen; omega))
        refine E.OW.nil ?_
        refine E.blk_n ?_
        refine E.then_n ?_
        refine E.CW.region ?_
        refine E.OW.pure rfl rfl rfl (E.PV.add_i64 rfl rfl rfl ?_) ?_; (focus (omega))
        refine E.OW.pure rfl rfl rfl (E.PV.move rfl rfl) ?_
        refine E.OW.nil ?_
        refine E.then_nf ?_
        refine ⟨_, [(9, _)], [0], _, ?_, by repeat (first | exact E.cov_nil | refine ⟨rfl, ?_⟩), rfl, k + 1, _, rfl, rfl, rfl, by omega, Cf.Dk_step hD (by omega)⟩
        omega)
    · simp only [E.b0, E.b1, E.b2, E.b3, E.b4, E.b5, E.b6, E.b7, E.b8, E.b9, E.b10, E.b11, E.b12, E.b13, E.b14, E.b15, E.b16, E.b17, E.b18, E.b19, E.b20, reduceCtorEq] at hc
      all_goals (
        refine E.CW.exit ?_
        refine E.then_x ?_
        refine E.then_x ?_
        refine E.blk_eq ?_
        refine E.then_n ?_
        refine E.CW.seq ?_
        refine E.CW.region ?_
        refine E.OW.pure rfl rfl rfl (E.PV.move rfl rfl) ?_
        refine E.OW.pure rfl rfl rfl (E.PV.maplen (i := 0) Try.underlying178 rfl rfl rfl) ?_
        refine E.OW.pure rfl rfl rfl (E.PV.move rfl rfl) ?_
        refine E.OW.pure rfl rfl rfl (E.PV.len Try.underlying31 rfl rfl) ?_
        refine E.OW.pure rfl rfl rfl (E.PV.eql rfl rfl rfl) ?_
        refine E.OW.pure rfl rfl rfl (E.PV.assign rfl rfl) ?_
        refine E.OW.nil ?_
        refine E.then_n ?_
        refine E.CW.ret ?_
        refine E.KR.one [] Try.results140 rfl rfl ?_
        exact ⟨by rw [Cf.Dk_end hD (by omega)], rfl⟩)

set_option maxRecDepth 100000 in
theorem Gr_ok (m : Nat) (w0 : World) (hm : m * 8 ≤ 140737488355328) :
    Calls Try.prog 147 #[.slice none 0 0, .int .i64 (m : Int)] w0 (E.Post w0 (E.Old w0) fun v Hn => ∃ A2 c2, v = .slice A2 0 c2 ∧ Hn = [E.HP.row 3 1 A2 0 c2 []]) := by
  refine E.calls_of (vs := [.slice none 0 0, .int .i64 (m : Int)]) (H := []) Try.func147 Try.ntmps147 rfl rfl (E.HA.start w0) ?_
  refine E.CW.seq ?_
  refine E.CW.region ?_
  refine E.OW.pure rfl rfl rfl (E.PV.assign rfl rfl) ?_
  refine E.OW.nil ?_
  refine E.then_n ?_
  refine E.CW.seq ?_
  refine E.CW.seq ?_
  refine E.CW.region ?_
  refine E.OW.pure rfl rfl rfl (E.PV.move rfl rfl) ?_
  refine E.OW.pure rfl rfl rfl (E.PV.lss rfl rfl rfl) ?_
  refine E.OW.nil ?_
  refine E.then_n ?_
  refine E.CW.cond rfl (fun hc => ?_) (fun hc => ?_)
  · (cases hc; done)
  · simp only [E.b0, E.b1, E.b2, E.b3, E.b4, E.b5, E.b6, E.b7, E.b8, E.b9, E.b10, E.b11, E.b12, E.b13, E.b14, E.b15, E.b16, E.b17, E.b18, E.b19, E.b20, reduceCtorEq] at hc
    all_goals (
      refine E.CW.skip ?_
      refine E.then_n ?_
      refine E.CW.seq ?_
      refine E.CW.seq ?_
      refine E.CW.region ?_
      refine E.OW.pure rfl rfl rfl (E.PV.move rfl rfl) ?_
      refine E.OW.pure rfl rfl rfl (E.PV.move rfl rfl) ?_
      refine E.OW.pure rfl rfl rfl (E.PV.cap Try.underlying31 rfl rfl) ?_
      refine E.OW.pure rfl rfl rfl (E.PV.move rfl rfl) ?_
      refine E.OW.pure rfl rfl rfl (E.PV.len Try.underlying31 rfl rfl) ?_
      refine E.OW.pure rfl rfl rfl (E.PV.sub_i64 rfl rfl rfl ?_) ?_; (focus (omega))
      refine E.OW.pure rfl rfl rfl (E.PV.sub_i64 rfl rfl rfl ?_) ?_; (focus (omega))
      refine E.OW.pure rfl rfl rfl (E.PV.assign rfl rfl) ?_
      refine E.OW.nil ?_
      refine E.then_n ?_
      refine E.CW.seq ?_
      refine E.CW.put 1 (.int .i64 (m : Int)) rfl (by simp) ?_
      refine E.CW.nilrow 3 1 ?_
      refine E.CW.region ?_
      refine E.OW.pure rfl rfl rfl (E.PV.move rfl rfl) ?_
      refine E.OW.pure rfl rfl rfl (E.PV.gtr rfl rfl rfl) ?_
      refine E.OW.nil ?_
      refine E.then_n ?_
      refine E.CW.cond rfl (fun hc => ?_) (fun hc => ?_)
      · simp only [E.b0, E.b1, E.b2, E.b3, E.b4, E.b5, E.b6, E.b7, E.b8, E.b9, E.b10, E.b11, E.b12, E.b13, E.b14, E.b15, E.b16, E.b17, E.b18, E.b19, E.b20, reduceCtorEq] at hc
        all_goals (
          refine E.CW.region ?_
          refine E.OW.pure rfl rfl rfl (E.PV.move rfl rfl) ?_
          refine E.OW.pure rfl rfl rfl (E.PV.move rfl rfl) ?_
          refine E.OW.pure rfl rfl rfl (E.PV.cap Try.underlying31 rfl rfl) ?_
          refine E.OW.cut (i := 0) (h := _) Try.underlying31 in3 rfl rfl rfl rfl rfl rfl rfl ?_ ?_; (focus (omega))
          refine E.OW.pure rfl rfl rfl (E.PV.move rfl rfl) ?_
          refine E.OW.app_zeros (m := m) Try.underlying31 Try.underlying3 in3 rfl rfl rfl rfl rfl rfl rfl rfl ?_ ?_ ?_ (fun A2 c2 zs2 => ?_); (focus (omega)); (focus (unfold maxLen; omega)); (focus (omega))
          refine E.OW.pure rfl rfl rfl (E.PV.move rfl rfl) ?_
          refine E.OW.pure rfl rfl rfl (E.PV.len Try.underlying31 rfl rfl) ?_
          refine E.OW.cut (i := 0) (h := _) Try.underlying31 in3 rfl rfl rfl rfl rfl rfl rfl ?_ ?_; (focus (omega))
          refine E.OW.pure rfl rfl rfl (E.PV.assign rfl rfl) ?_
          refine E.OW.nil ?_
          refine E.then_n ?_
          refine E.CW.seq ?_
          refine E.CW.region ?_
          refine E.OW.pure rfl rfl rfl (E.PV.move rfl rfl) ?_
          refine E.OW.pure rfl rfl rfl (E.PV.assign rfl rfl) ?_
          refine E.OW.nil ?_
          refine E.then_n ?_
          refine E.CW.ret ?_
          refine E.KR.one [0] Try.results147 rfl rfl ?_
          exact ⟨_, _, rfl, rfl⟩)
      · simp only [E.b0, E.b1, E.b2, E.b3, E.b4, E.b5, E.b6, E.b7, E.b8, E.b9, E.b10, E.b11, E.b12, E.b13, E.b14, E.b15, E.b16, E.b17, E.b18, E.b19, E.b20, reduceCtorEq] at hc
        all_goals (
          refine E.CW.skip ?_
          refine E.then_n ?_
          refine E.CW.seq ?_
          refine E.CW.region ?_
          refine E.OW.pure rfl rfl rfl (E.PV.move rfl rfl) ?_
          refine E.OW.pure rfl rfl rfl (E.PV.assign rfl rfl) ?_
          refine E.OW.nil ?_
          refine E.then_n ?_
          refine E.CW.ret ?_
          refine E.KR.one [0] Try.results147 rfl rfl ?_
          exact ⟨_, _, rfl, rfl⟩))

set_option maxRecDepth 100000 in
theorem Cc_ok (A : Option Addr) (c : Nat) (ss : List E.Sl) (w0 : World) (hl : ss.length ≤ 100) (hX : E.Rd w0 (E.Old w0) A (E.sls ss)) (hs : ∀ s ∈ ss, E.Rd w0 (E.Old w0) s.A (E.ints s.l)) (hf : (E.flat ss ss.length).length * 8 ≤ 140737488355328) :
    Calls Try.prog 125 #[.slice A ss.length c] w0 (E.Post w0 (E.Old w0) fun v Hn => ∃ A2 c2, v = .slice A2 (E.flat ss ss.length).length c2 ∧ Hn = [E.HP.row 3 1 A2 (E.flat ss ss.length).length c2 (E.ints (E.flat ss ss.length))]) := by
  refine E.calls_of (vs := [.slice A ss.length c]) (H := []) Try.func125 Try.ntmps125 rfl rfl (E.HA.start w0) ?_
  refine E.CW.seq ?_
  refine E.CW.region ?_
  refine E.OW.pure rfl rfl rfl (E.PV.assign rfl rfl) ?_
  refine E.OW.nil ?_
  refine E.then_n ?_
  refine E.CW.seq ?_
  refine E.CW.region ?_
  refine E.OW.pure rfl rfl rfl (E.PV.assign rfl rfl) ?_
  refine E.OW.nil ?_
  refine E.then_n ?_
  refine E.CW.seq ?_
  refine E.CW.seq ?_
  refine E.CW.region ?_
  refine E.OW.pure rfl rfl rfl (E.PV.move rfl rfl) ?_
  refine E.OW.pure rfl rfl rfl (E.PV.len Try.underlying91 rfl rfl) ?_
  refine E.OW.pure rfl rfl rfl (E.PV.move rfl rfl) ?_
  refine E.OW.nil ?_
  refine E.then_n ?_
  refine E.CW.block ?_
  refine E.CW.loopk [0, 9, 10] 0 rfl rfl (fun mm mods Hm => ∃ k : Nat, mm = ss.length - k ∧ mods = [(3, .int .i64 ((E.flat ss k).length : Int)), (11, .int .i64 k)] ∧ Hm = [] ∧ k ≤ ss.length) (ss.length) ?_ ?_
  · exact ⟨[(3, _), (11, _)], (by repeat (first | exact E.cov_nil | refine ⟨rfl, ?_⟩)), 0, rfl, by rw [E.flat_zero]; rfl, rfl, by omega⟩
  · rintro _ _ _ ⟨k, rfl, rfl, rfl, hk⟩
    refine E.CW.seq ?_
    refine E.CW.region ?_
    refine E.OW.pure rfl rfl rfl (E.PV.lss rfl rfl rfl) ?_
    refine E.OW.nil ?_
    refine E.then_n ?_
    refine E.CW.seq ?_
    refine E.CW.cond rfl (fun hc => ?_) (fun hc => ?_)
    · simp only [E.b0, E.b1, E.b2, E.b3, E.b4, E.b5, E.b6, E.b7, E.b8, E.b9, E.b10, E.b11, E.b12, E.b13, E.b14, E.b15, E.b16, E.b17, E.b18, E.b19, E.b20, reduceCtorEq] at hc
      all_goals (
        refine E.CW.skip ?_
        refine E.then_n ?_
        refine E.CW.seq ?_
        refine E.CW.block ?_
        refine E.CW.seq ?_
        have hsk := hs _ (E.Sl.mem (show k < ss.length by omega))
        have hfl := E.flat_le ss (k + 1)
        have hfs := E.flat_succ (show k < ss.length by omega)
        have hfn : (E.flat ss (k + 1)).length = (E.flat ss k).length + (ss.getD k E.Sl.z).l.length := by rw [hfs, List.length_append]
        refine E.CW.region ?_
        refine E.OW.pure rfl rfl rfl (E.PV.indexAddr1 (E.rdc hX) Try.underlying91 in31 rfl rfl rfl rfl ?_ ?_) ?_; (focus (first | (simp; done) | (simp; omega))); (focus (omega))
        refine E.OW.pure rfl rfl rfl (E.PV.load_sl (E.rdc hX) na31 rfl rfl ?_) ?_; (focus (omega))
        refine E.OW.pure rfl rfl rfl (E.PV.assign rfl rfl) ?_
        refine E.OW.nil ?_
        refine E.then_n ?_
        refine E.CW.seq ?_
        refine E.CW.region ?_
        refine E.OW.pure rfl rfl rfl (E.PV.move rfl rfl) ?_
        refine E.OW.pure rfl rfl rfl (E.PV.move rfl rfl) ?_
        refine E.OW.pure rfl rfl rfl (E.PV.len Try.underlying31 rfl rfl) ?_
        refine E.OW.pure rfl rfl rfl (E.PV.add_i64 rfl rfl rfl ?_) ?_; (focus (omega))
        refine E.OW.pure rfl rfl rfl (E.PV.assign rfl rfl) ?_
        refine E.OW.nil ?_
        refine E.then_n ?_
        refine E.CW.seq ?_
        refine E.CW.region ?_
        refine E.OW.pure rfl rfl rfl (E.PV.move rfl rfl) ?_
        refine E.OW.pure rfl rfl rfl (E.PV.lss rfl rfl rfl) ?_
        refine E.OW.nil ?_
        refine E.then_n ?_
        refine E.CW.cond rfl (fun hc => ?_) (fun hc => ?_)
        · (cases hc; done)
        · simp only [E.b0, E.b1, E.b2, E.b3, E.b4, E.b5, E.b6, E.b7, E.b8, E.b9, E.b10, E.b11, E.b12, E.b13, E.b14, E.b15, E.b16, E.b17, E.b18, E.b19, E.b20, reduceCtorEq] at hc
          all_goals (
            refine E.CW.skip ?_
            refine E.blk_n ?_
            refine E.then_n ?_
            refine E.CW.region ?_
            refine E.OW.pure rfl rfl rfl (E.PV.add_i64 rfl rfl rfl ?_) ?_; (focus (omega))
            refine E.OW.pure rfl rfl rfl (E.PV.move rfl rfl) ?_
            refine E.OW.nil ?_
            refine E.then_nf ?_
            refine ⟨_, [(3, _), (11, _)], [], _, ?_, by repeat (first | exact E.cov_nil | refine ⟨rfl, ?_⟩), rfl, k + 1, rfl, by rw [hfn]; rfl, rfl, by omega⟩
            omega))
    · simp only [E.b0, E.b1, E.b2, E.b3, E.b4, E.b5, E.b6, E.b7, E.b8, E.b9, E.b10, E.b11, E.b12, E.b13, E.b14, E.b15, E.b16, E.b17, E.b18, E.b19, E.b20, reduceCtorEq] at hc
      all_goals (
        refine E.CW.exit ?_
        refine E.then_x ?_
        refine E.then_x ?_
        refine E.blk_eq ?_
        refine E.then_n ?_
        refine E.CW.seq ?_
        obtain rfl : k = ss.length := by omega
        refine E.CW.region ?_
        refine E.OW.pure rfl rfl rfl (E.PV.move rfl rfl) ?_
        (refine E.OW.call nm147 rfl rfl rfl rfl rfl rfl _ (fun w hw => Gr_ok _ w ?_) ?_; (focus (assumption)); rintro _ _ ⟨AG, cG, rfl, rfl⟩)
        refine E.OW.pure rfl rfl rfl (E.PV.assign rfl rfl) ?_
        refine E.OW.nil ?_
        refine E.then_n ?_
        refine E.CW.seq ?_
        refine E.CW.seq ?_
        refine E.CW.region ?_
        refine E.OW.pure rfl rfl rfl (E.PV.move rfl rfl) ?_
        refine E.OW.pure rfl rfl rfl (E.PV.len Try.underlying91 rfl rfl) ?_
        refine E.OW.pure rfl rfl rfl (E.PV.move rfl rfl) ?_
        refine E.OW.nil ?_
        refine E.then_n ?_
        refine E.CW.block ?_
        refine E.CW.loopk [25, 26] 1 rfl rfl (fun mm mods Hm => ∃ k : Nat, ∃ D : Option Addr, ∃ e : Nat, mm = ss.length - k ∧ mods = [(27, .int .i64 k), (6, .slice D (E.flat ss k).length e)] ∧ Hm = [E.HP.row 3 1 D (E.flat ss k).length e (E.ints (E.flat ss k))] ∧ k ≤ ss.length) (ss.length) ?_ ?_
        · exact ⟨[(27, _), (6, _)], (by repeat (first | exact E.cov_nil | refine ⟨rfl, ?_⟩)), 0, _, _, rfl, by rw [E.flat_zero]; rfl, by rw [E.flat_zero]; rfl, by omega⟩
        · rintro _ _ _ ⟨k, D, e, rfl, rfl, rfl, hk⟩
          refine E.CW.seq ?_
          refine E.CW.region ?_
          refine E.OW.pure rfl rfl rfl (E.PV.lss rfl rfl rfl) ?_
          refine E.OW.nil ?_
          refine E.then_n ?_
          refine E.CW.seq ?_
          refine E.CW.cond rfl (fun hc => ?_) (fun hc => ?_)
          · simp only [E.b0, E.b1, E.b2, E.b3, E.b4, E.b5, E.b6, E.b7, E.b8, E.b9, E.b10, E.b11, E.b12, E.b13, E.b14, E.b15, E.b16, E.b17, E.b18, E.b19, E.b20, reduceCtorEq] at hc
            all_goals (
              refine E.CW.skip ?_
              refine E.then_n ?_
              refine E.CW.seq ?_
              refine E.CW.block ?_
              refine E.CW.seq ?_
              have hsk := hs _ (E.Sl.mem (show k < ss.length by omega))
              have hfl := E.flat_le ss (k + 1)
              have hfs := E.flat_succ (show k < ss.length by omega)
              have hfn : (E.flat ss (k + 1)).length = (E.flat ss k).length + (ss.getD k E.Sl.z).l.length := by rw [hfs, List.length_append]
              refine E.CW.region ?_
              refine E.OW.pure rfl rfl rfl (E.PV.indexAddr1 (E.rdc hX) Try.underlying91 in31 rfl rfl rfl rfl ?_ ?_) ?_; (focus (first | (simp; done) | (simp; omega))); (focus (omega))
              refine E.OW.pure rfl rfl rfl (E.PV.load_sl (E.rdc hX) na31 rfl rfl ?_) ?_; (focus (omega))
              refine E.OW.pure rfl rfl rfl (E.PV.assign rfl rfl) ?_
              refine E.OW.nil ?_
              refine E.then_n ?_
              refine E.CW.region ?_
              refine E.OW.pure rfl rfl rfl (E.PV.move rfl rfl) ?_
              refine E.OW.pure rfl rfl rfl (E.PV.move rfl rfl) ?_
              refine E.OW.app_ints (i := 0) Try.underlying31 in3 rfl rfl rfl rfl rfl rfl rfl rfl rfl (E.rdc hsk) ?_ (fun A1 c1 => ?_); (focus ((first | omega | (simp only [List.length_append, List.length_cons, List.length_nil] at *; omega) | (unfold maxLen at *; omega))))
              refine E.OW.pure rfl rfl rfl (E.PV.assign rfl rfl) ?_
              refine E.OW.nil ?_
              refine E.blk_n ?_
              refine E.then_n ?_
              refine E.CW.region ?_
              refine E.OW.pure rfl rfl rfl (E.PV.add_i64 rfl rfl rfl ?_) ?_; (focus (omega))
              refine E.OW.pure rfl rfl rfl (E.PV.move rfl rfl) ?_
              refine E.OW.nil ?_
              refine E.then_nf ?_
              refine ⟨_, [(27, _), (6, _)], [0], _, ?_, by repeat (first | exact E.cov_nil | refine ⟨rfl, ?_⟩), rfl, k + 1, _, _, rfl, by rw [hfs]; rfl, by rw [hfs], by omega⟩
              omega)
          · simp only [E.b0, E.b1, E.b2, E.b3, E.b4, E.b5, E.b6, E.b7, E.b8, E.b9, E.b10, E.b11, E.b12, E.b13, E.b14, E.b15, E.b16, E.b17, E.b18, E.b19, E.b20, reduceCtorEq] at hc
            all_goals (
              refine E.CW.exit ?_
              refine E.then_x ?_
              refine E.then_x ?_
              refine E.blk_eq ?_
              refine E.then_n ?_
              refine E.CW.seq ?_
              refine E.CW.region ?_
              refine E.OW.pure rfl rfl rfl (E.PV.move rfl rfl) ?_
              refine E.OW.pure rfl rfl rfl (E.PV.assign rfl rfl) ?_
              refine E.OW.nil ?_
              refine E.then_n ?_
              refine E.CW.ret ?_
              refine E.KR.one [0] Try.results125 rfl rfl ?_
              obtain rfl : k = ss.length := by omega
              exact ⟨_, _, rfl, rfl⟩))

set_option maxRecDepth 100000 in
theorem Sp_ok (m : E.Tm) (w0 : World) (hm : m.rd w0 (E.Old w0)) (hf : m.q.fit) (h8 : (Cf.spots m.q).length * 8 ≤ 140737488355328) :
    Calls Try.prog 100 #[m.v] w0 (E.Post w0 (E.Old w0) fun v Hn => ∃ A2 c2, v = .slice A2 (Cf.spots m.q).length c2 ∧ Hn = [E.HP.row 3 1 A2 (Cf.spots m.q).length c2 (E.ints (Cf.spots m.q))]) := by
  obtain ⟨hX, hY, hZ⟩ := id hm
  have hs1 := hf.h
  have hs2 := hf.p
  have hs3 := hf.d
  have hsl := Cf.spots_len m.q
  have hfl : E.flat [⟨m.A1, m.c1, m.q.h⟩, ⟨m.A2, m.c2, m.q.p⟩, ⟨m.A3, m.c3, m.q.d⟩] 3 = Cf.spots m.q := by simp [E.flat, Cf.spots]
  refine E.calls_of (vs := [m.v]) (H := []) Try.func100 Try.ntmps100 rfl rfl (E.HA.start w0) ?_
  refine E.CW.seq ?_
  refine E.CW.region ?_
  refine E.OW.box rfl rfl rfl rfl rfl rfl (fun B1 => ?_)
  refine E.OW.pure rfl rfl rfl (E.PV.assign rfl rfl) ?_
  refine E.OW.nil ?_
  refine E.then_n ?_
  refine E.CW.seq ?_
  refine E.CW.region ?_
  refine E.OW.pure rfl rfl rfl (E.PV.fieldAddr fa79_0 rfl rfl) ?_
  refine E.OW.pure rfl rfl rfl (E.PV.load (i := 0) na31 rfl rfl rfl rfl) ?_
  refine E.OW.pure rfl rfl rfl (E.PV.fieldAddr fa79_1 rfl rfl) ?_
  refine E.OW.pure rfl rfl rfl (E.PV.load (i := 0) na31 rfl rfl rfl rfl) ?_
  refine E.OW.pure rfl rfl rfl (E.PV.fieldAddr fa79_2 rfl rfl) ?_
  refine E.OW.pure rfl rfl rfl (E.PV.load (i := 0) na31 rfl rfl rfl rfl) ?_
  refine E.OW.buildSlice (Et := 31) (sz := 1) (cs := E.sls [⟨m.A1, m.c1, m.q.h⟩, ⟨m.A2, m.c2, m.q.p⟩, ⟨m.A3, m.c3, m.q.d⟩]) (ps := [(0, .tmp 4), (1, .tmp 6), (2, .tmp 8)]) rfl rfl rfl rfl rfl (by simp) (by unfold maxLen; omega) (fun w => bsl91_3_0_1_2 _ _ _ _ _ _ _ _ _ w) (fun AL => ?_)
  (refine E.OW.call nm125 rfl rfl rfl rfl rfl rfl _ (fun w hw => Cc_ok _ _ [⟨m.A1, m.c1, m.q.h⟩, ⟨m.A2, m.c2, m.q.p⟩, ⟨m.A3, m.c3, m.q.d⟩] w (by simp) ?_ (fun s hs => by simp only [List.mem_cons, List.not_mem_nil, or_false] at hs; rcases hs with rfl | rfl | rfl; exact hw.rd hX; exact hw.rd hY; exact hw.rd hZ) (by show (E.flat _ 3).length * 8 ≤ _; rw [hfl]; exact h8)) ?_; (focus (exact hw.rdrow (i := 0) rfl)); rintro _ _ ⟨AS, cS, rfl, rfl⟩)
  refine E.OW.pure rfl rfl rfl (E.PV.assign rfl rfl) ?_
  refine E.OW.nil ?_
  refine E.then_n ?_
  refine E.CW.ret ?_
  refine E.KR.one [0] Try.results100 rfl rfl ?_
  rw [← hfl]
  exact ⟨_, _, rfl, rfl⟩

set_option maxRecDepth 100000 in
theorem Ab_ok (m : E.Tm) (w0 : World) (hm : m.rd w0 (E.Old w0)) (hf : m.q.fit) :
    Calls Try.prog 123 #[m.v] w0 (E.Post w0 (E.Old w0) fun v Hn => v = .bool (Cf.absent m.q) ∧ Hn = []) := by
  refine E.calls_of (vs := [m.v]) (H := []) Try.func123 Try.ntmps123 rfl rfl (E.HA.start w0) ?_
  refine E.CW.seq ?_
  refine E.CW.region ?_
  refine E.OW.box rfl rfl rfl rfl rfl rfl (fun B1 => ?_)
  refine E.OW.pure rfl rfl rfl (E.PV.assign rfl rfl) ?_
  refine E.OW.nil ?_
  refine E.then_n ?_
  refine E.CW.seq ?_
  refine E.CW.region ?_
  refine E.OW.pure rfl rfl rfl (E.PV.loads (i := 0) is79 rfl rfl rfl rfl) ?_
  refine E.OW.pure rfl rfl rfl (E.PV.build (ps := []) rfl rfl (fun w => bld79_ w)) ?_
  (refine E.OW.call nm146 rfl rfl rfl rfl rfl rfl _ (fun w hw => sameTeam_ok m E.Tm.z w ?_ (E.Tm.z_rd _ _) ?_ Cf.T.z_fit) ?_; (focus (refine hw.rdm ?_; assumption)); (focus (assumption)); rintro _ _ ⟨rfl, rfl⟩)
  refine E.OW.pure rfl rfl rfl (E.PV.assign rfl rfl) ?_
  refine E.OW.nil ?_
  refine E.then_n ?_
  refine E.CW.ret ?_
  refine E.KR.one [] Try.results123 rfl rfl ?_
  exact ⟨rfl, rfl⟩

set_option maxRecDepth 100000 in
theorem Wi_ok (A : Option Addr) (c : Nat) (ps : List (Int × Int)) (w0 : World) (hl : ps.length ≤ 100) (hX : E.Rd w0 (E.Old w0) A (E.pairs ps)) :
    Calls Try.prog 136 #[.slice A ps.length c] w0 (E.Post w0 (E.Old w0) fun v Hn => v = .bool (ps.all fun x => Cf.btw x.1 x.2) ∧ Hn = []) := by
  refine E.calls_of (vs := [.slice A ps.length c]) (H := []) Try.func136 Try.ntmps136 rfl rfl (E.HA.start w0) ?_
  refine E.CW.seq ?_
  refine E.CW.region ?_
  refine E.OW.pure rfl rfl rfl (E.PV.assign rfl rfl) ?_
  refine E.OW.nil ?_
  refine E.then_n ?_
  refine E.CW.seq ?_
  refine E.CW.seq ?_
  refine E.CW.region ?_
  refine E.OW.pure rfl rfl rfl (E.PV.move rfl rfl) ?_
  refine E.OW.pure rfl rfl rfl (E.PV.len Try.underlying175 rfl rfl) ?_
  refine E.OW.pure rfl rfl rfl (E.PV.move rfl rfl) ?_
  refine E.OW.nil ?_
  refine E.then_n ?_
  refine E.CW.block ?_
  refine E.CW.loopk [5, 6] 0 rfl rfl (fun mm mods Hm => ∃ k : Nat, mm = ps.length - k ∧ mods = [(7, .int .i64 k)] ∧ Hm = [] ∧ (k ≤ ps.length ∧ ∀ j, j < k → Cf.btw (ps.getD j (0, 0)).1 (ps.getD j (0, 0)).2 = true)) (ps.length) ?_ ?_
  · exact ⟨[(7, _)], (by repeat (first | exact E.cov_nil | refine ⟨rfl, ?_⟩)), 0, rfl, rfl, rfl, by omega, fun j hj => by omega⟩
  · rintro _ _ _ ⟨k, rfl, rfl, rfl, hk, hI⟩
    refine E.CW.seq ?_
    refine E.CW.region ?_
    refine E.OW.pure rfl rfl rfl (E.PV.lss rfl rfl rfl) ?_
    refine E.OW.nil ?_
    refine E.then_n ?_
    refine E.CW.seq ?_
    refine E.CW.cond rfl (fun hc => ?_) (fun hc => ?_)
    · simp only [E.b0, E.b1, E.b2, E.b3, E.b4, E.b5, E.b6, E.b7, E.b8, E.b9, E.b10, E.b11, E.b12, E.b13, E.b14, E.b15, E.b16, E.b17, E.b18, E.b19, E.b20, reduceCtorEq] at hc
      all_goals (
        refine E.CW.skip ?_
        refine E.then_n ?_
        refine E.CW.seq ?_
        refine E.CW.block ?_
        refine E.CW.seq ?_
        refine E.CW.region ?_
        refine E.OW.pure rfl rfl rfl (E.PV.indexAddr (E.rdc hX) Try.underlying175 in164 rfl rfl rfl rfl ?_ ?_ (by decide)) ?_; (focus (first | (simp; done) | (simp; omega))); (focus (omega))
        refine E.OW.pure rfl rfl rfl (E.PV.load_pair (E.rdc hX) is164 rfl rfl ?_) ?_; (focus (omega))
        refine E.OW.alloc (in164.zr) rfl rfl rfl rfl rfl (fun B1 => ?_)
        refine E.OW.store (i := 0) in164.size rfl rfl rfl rfl rfl rfl rfl rfl rfl ?_
        refine E.OW.nil ?_
        refine E.then_n ?_
        refine E.CW.seq ?_
        refine E.CW.region ?_
        refine E.OW.pure rfl rfl rfl (E.PV.fieldAddr fa164_0 rfl rfl) ?_
        refine E.OW.pure rfl rfl rfl (E.PV.load (i := 0) na3 rfl rfl rfl rfl) ?_
        refine E.OW.pure rfl rfl rfl (E.PV.lss rfl rfl rfl) ?_
        refine E.OW.pure rfl rfl rfl (E.PV.move rfl rfl) ?_
        all_goals (refine E.OW.split 14 rfl (fun hc => ?_) (fun hc => ?_) <;> (try simp only [E.b0, E.b1, E.b2, E.b3, E.b4, E.b5, E.b6, E.b7, E.b8, E.b9, E.b10, E.b11, E.b12, E.b13, E.b14, E.b15, E.b16, E.b17, E.b18, E.b19, E.b20, reduceCtorEq] at hc) <;> (try (exfalso; first | assumption | contradiction | omega)))
        all_goals (first | (refine E.OW.off rfl rfl rfl ?_) | (refine E.OW.pure rfl rfl rfl (E.PV.fieldAddr fa164_0 rfl rfl) ?_))
        all_goals (first | (refine E.OW.off rfl rfl rfl ?_) | (refine E.OW.pure rfl rfl rfl (E.PV.load (i := 0) na3 rfl rfl rfl rfl) ?_))
        all_goals (first | (refine E.OW.off rfl rfl rfl ?_) | (refine E.OW.pure rfl rfl rfl (E.PV.fieldAddr fa164_1 rfl rfl) ?_))
        all_goals (first | (refine E.OW.off rfl rfl rfl ?_) | (refine E.OW.pure rfl rfl rfl (E.PV.load (i := 0) na3 rfl rfl rfl rfl) ?_))
        all_goals (first | (refine E.OW.off rfl rfl rfl ?_) | (refine E.OW.pure rfl rfl rfl (E.PV.gtr rfl rfl rfl) ?_))
        all_goals (first | (refine E.OW.pure rfl rfl rfl (E.PV.pick_t rfl rfl rfl) ?_) | (refine E.OW.pure rfl rfl rfl (E.PV.pick_f rfl rfl rfl) ?_))
        all_goals (
          refine E.OW.nil ?_
          refine E.then_n ?_
          refine E.CW.cond rfl (fun hc => ?_) (fun hc => ?_)
          · simp only [E.b0, E.b1, E.b2, E.b3, E.b4, E.b5, E.b6, E.b7, E.b8, E.b9, E.b10, E.b11, E.b12, E.b13, E.b14, E.b15, E.b16, E.b17, E.b18, E.b19, E.b20, reduceCtorEq] at hc
            all_goals (
              refine E.CW.seq ?_
              refine E.CW.region ?_
              refine E.OW.pure rfl rfl rfl (E.PV.assign rfl rfl) ?_
              refine E.OW.nil ?_
              refine E.then_n ?_
              refine E.CW.ret ?_
              refine E.blk_ret ?_
              refine E.then_ret ?_
              refine E.then_ret ?_
              refine E.blk_ret ?_
              refine E.then_ret ?_
              refine E.KR.one [] Try.results136 rfl rfl ?_
              exact ⟨by rw [Cf.all_bad (z := (0, 0)) (k := k) (by omega) (by rw [Cf.btw, ← Bool.decide_and]; exact decide_eq_false (by omega))], rfl⟩)
          · first | ((cases hc; done)) | (simp only [E.b0, E.b1, E.b2, E.b3, E.b4, E.b5, E.b6, E.b7, E.b8, E.b9, E.b10, E.b11, E.b12, E.b13, E.b14, E.b15, E.b16, E.b17, E.b18, E.b19, E.b20, reduceCtorEq] at hc)
            all_goals (
              refine E.CW.skip ?_
              refine E.blk_n ?_
              refine E.then_n ?_
              refine E.CW.region ?_
              refine E.OW.pure rfl rfl rfl (E.PV.add_i64 rfl rfl rfl ?_) ?_; (focus (omega))
              refine E.OW.pure rfl rfl rfl (E.PV.move rfl rfl) ?_
              refine E.OW.nil ?_
              refine E.then_nf ?_
              refine ⟨_, [(7, _)], [], _, ?_, by repeat (first | exact E.cov_nil | refine ⟨rfl, ?_⟩), rfl, k + 1, rfl, rfl, rfl, by omega, Cf.next_all hI (by simp only [Cf.btw, Bool.and_eq_true, decide_eq_true_eq]; omega)⟩
              omega)))
    · simp only [E.b0, E.b1, E.b2, E.b3, E.b4, E.b5, E.b6, E.b7, E.b8, E.b9, E.b10, E.b11, E.b12, E.b13, E.b14, E.b15, E.b16, E.b17, E.b18, E.b19, E.b20, reduceCtorEq] at hc
      all_goals (
        refine E.CW.exit ?_
        refine E.then_x ?_
        refine E.then_x ?_
        refine E.blk_eq ?_
        refine E.then_n ?_
        refine E.CW.seq ?_
        refine E.CW.region ?_
        refine E.OW.pure rfl rfl rfl (E.PV.assign rfl rfl) ?_
        refine E.OW.nil ?_
        refine E.then_n ?_
        refine E.CW.ret ?_
        refine E.KR.one [] Try.results136 rfl rfl ?_
        exact ⟨by rw [Cf.all_good (z := (0, 0)) (fun j hj => hI j (by omega))], rfl⟩)

theorem Wn_ok (A : Option Addr) (c : Nat) (m : Cf.T) (w0 : World) (hX : E.Rd w0 (E.Old w0) A (E.pairs (Cf.lims m))) : Calls Try.prog 136 #[.slice A 8 c] w0 (E.Post w0 (E.Old w0) fun v Hn => v = .bool (Cf.numbers m) ∧ Hn = []) := Wi_ok A c (Cf.lims m) w0 (by simp [Cf.lims]) hX

set_option maxRecDepth 100000 in
theorem Fo_ok (B : Nat) (A : Option Addr) (c : Nat) (l : List Int) (x : Int) (w0 : World) (hB : E.Rd w0 (E.Old w0) (some ⟨B, 0, none⟩) [.slice A l.length c]) (hl : l.length ≤ 140737488355328) (hX : E.Rd w0 (E.Old w0) A (E.ints l)) :
    Calls Try.prog 137 #[.int .i64 x, .pointer (some ⟨B, 0, none⟩)] w0 (E.Post w0 (E.Old w0) fun v Hn => v = .bool (!decide (x ∈ l)) ∧ Hn = []) := by
  refine E.calls_of (vs := [.int .i64 x, .pointer (some ⟨B, 0, none⟩)]) (H := []) Try.func137 Try.ntmps137 rfl rfl (E.HA.start w0) ?_
  refine E.CW.seq ?_
  refine E.CW.region ?_
  refine E.OW.pure rfl rfl rfl (E.PV.assign rfl rfl) ?_
  refine E.OW.nil ?_
  refine E.then_n ?_
  refine E.CW.seq ?_
  refine E.CW.region ?_
  refine E.OW.pure rfl rfl rfl (E.PV.load_of (k := 0) (E.rdc hB) na31 rfl rfl rfl) ?_
  refine E.OW.pure rfl rfl rfl (E.PV.move rfl rfl) ?_
  (refine E.OW.call nm138 rfl rfl rfl rfl rfl rfl _ (fun w hw => Cn_ok _ _ _ _ w ?_ ?_) ?_; (focus (assumption)); (focus (refine hw.rd ?_; assumption)); rintro _ _ ⟨rfl, rfl⟩)
  refine E.OW.pure rfl rfl rfl (E.PV.not rfl rfl) ?_
  refine E.OW.pure rfl rfl rfl (E.PV.assign rfl rfl) ?_
  refine E.OW.nil ?_
  refine E.then_n ?_
  refine E.CW.ret ?_
  refine E.KR.one [] Try.results137 rfl rfl ?_
  exact ⟨rfl, rfl⟩

set_option maxRecDepth 100000 in
theorem CT_ok (a b : Int) (A : Option Addr) (c : Nat) (l : List UInt8) (t : Int) (m : E.Tm) (w0 : World) (hl : l.length ≤ 140737488355328) (hL : E.Rd w0 (E.Old w0) A (E.u8s l)) (hm : m.rd w0 (E.Old w0)) (hf : m.q.fit) :
    Calls Try.prog 118 #[.agg #[.int .i64 a, .int .i64 b, .slice A l.length c], .int .i64 t, m.v] w0 (E.Post w0 (E.Old w0) fun v Hn => v = .int .i64 (Cf.checkTeam a b l t m.q) ∧ Hn = []) := by
  obtain ⟨hX, hY, hZ⟩ := id hm
  have hs1 := hf.h
  have hs2 := hf.p
  have hs3 := hf.d
  have hsl := Cf.spots_len m.q
  have hpl := Fl.priv_len a b l t
  refine E.calls_of (vs := [.agg #[.int .i64 a, .int .i64 b, .slice A l.length c], .int .i64 t, m.v]) (H := []) Try.func118 Try.ntmps118 rfl rfl (E.HA.start w0) ?_
  refine E.CW.seq ?_
  refine E.CW.region ?_
  refine E.OW.box rfl rfl rfl rfl rfl rfl (fun B1 => ?_)
  refine E.OW.box rfl rfl rfl rfl rfl rfl (fun B2 => ?_)
  refine E.OW.pure rfl rfl rfl (E.PV.assign rfl rfl) ?_
  refine E.OW.nil ?_
  refine E.then_n ?_
  refine E.CW.seq ?_
  refine E.CW.region ?_
  refine E.OW.pure rfl rfl rfl (E.PV.loads (i := 1) is24 rfl rfl rfl rfl) ?_
  refine E.OW.pure rfl rfl rfl (E.PV.move rfl rfl) ?_
  (refine E.OW.call nm135 rfl rfl rfl rfl rfl rfl _ (fun w hw => Private_ok _ _ _ _ _ _ w ?_ ?_) ?_; (focus (assumption)); (focus (refine hw.rd ?_; assumption)); rintro _ _ ⟨_, _, rfl, rfl⟩)
  refine E.OW.pure rfl rfl rfl (E.PV.move rfl rfl) ?_
  refine E.OW.pure rfl rfl rfl (E.PV.extract rfl rfl rfl) ?_
  refine E.OW.pure rfl rfl rfl (E.PV.extract rfl rfl rfl) ?_
  refine E.OW.alloc (in31.zr) rfl rfl rfl rfl rfl (fun B3 => ?_)
  refine E.OW.store (i := 0) in31.size rfl rfl rfl rfl rfl rfl rfl rfl rfl ?_
  refine E.OW.pure rfl rfl rfl (E.PV.assign rfl rfl) ?_
  refine E.OW.nil ?_
  refine E.then_n ?_
  refine E.CW.seq ?_
  refine E.CW.seq ?_
  refine E.CW.region ?_
  refine E.OW.pure rfl rfl rfl (E.PV.move rfl rfl) ?_
  refine E.OW.pure rfl rfl rfl (E.PV.neq rfl rfl rfl) ?_
  refine E.OW.nil ?_
  refine E.then_n ?_
  refine E.CW.cond rfl (fun hc => ?_) (fun hc => ?_)
  · simp only [E.b0, E.b1, E.b2, E.b3, E.b4, E.b5, E.b6, E.b7, E.b8, E.b9, E.b10, E.b11, E.b12, E.b13, E.b14, E.b15, E.b16, E.b17, E.b18, E.b19, E.b20, reduceCtorEq] at hc
    all_goals (
      refine E.CW.seq ?_
      refine E.CW.region ?_
      refine E.OW.pure rfl rfl rfl (E.PV.move rfl rfl) ?_
      refine E.OW.pure rfl rfl rfl (E.PV.assign rfl rfl) ?_
      refine E.OW.nil ?_
      refine E.then_n ?_
      refine E.CW.ret ?_
      refine E.then_ret ?_
      refine E.KR.one [] Try.results118 rfl rfl ?_
      exact ⟨congrArg (Value.int .i64) (Cf.checkTeam_bad (by assumption)).symm, rfl⟩)
  · simp only [E.b0, E.b1, E.b2, E.b3, E.b4, E.b5, E.b6, E.b7, E.b8, E.b9, E.b10, E.b11, E.b12, E.b13, E.b14, E.b15, E.b16, E.b17, E.b18, E.b19, E.b20, reduceCtorEq] at hc
    all_goals (
      refine E.CW.skip ?_
      refine E.then_n ?_
      refine E.CW.seq ?_
      refine E.CW.seq ?_
      obtain ⟨hv, ht⟩ := Cf.priv_ok (by assumption)
      refine E.CW.region ?_
      refine E.OW.pure rfl rfl rfl (E.PV.loads (i := 2) is79 rfl rfl rfl rfl) ?_
      (refine E.OW.call nm123 rfl rfl rfl rfl rfl rfl _ (fun w hw => Ab_ok _ w ?_ ?_) ?_; (focus (refine hw.rdm ?_; assumption)); (focus (assumption)); rintro _ _ ⟨rfl, rfl⟩)
      refine E.OW.nil ?_
      refine E.then_n ?_
      refine E.CW.cond rfl (fun hc => ?_) (fun hc => ?_)
      · skip
        all_goals (
          refine E.CW.seq ?_
          refine E.CW.region ?_
          refine E.OW.pure rfl rfl rfl (E.PV.assign rfl rfl) ?_
          refine E.OW.nil ?_
          refine E.then_n ?_
          refine E.CW.ret ?_
          refine E.then_ret ?_
          refine E.KR.one [] Try.results118 rfl rfl ?_
          have ha : Cf.absent m.q = true := by assumption
          exact ⟨by rw [Cf.checkTeam_if hv ht, ha]; rfl, rfl⟩)
      · skip
        all_goals (
          refine E.CW.skip ?_
          refine E.then_n ?_
          refine E.CW.seq ?_
          refine E.CW.seq ?_
          refine E.CW.region ?_
          refine E.OW.pure rfl rfl rfl (E.PV.fieldAddr fa79_0 rfl rfl) ?_
          refine E.OW.pure rfl rfl rfl (E.PV.load (i := 2) na31 rfl rfl rfl rfl) ?_
          refine E.OW.pure rfl rfl rfl (E.PV.len Try.underlying31 rfl rfl) ?_
          refine E.OW.pure rfl rfl rfl (E.PV.build (ps := [(0, .tmp 24), (1, .const (.int .i64 3))]) rfl rfl (fun w => bld164_0_1 _ _ w)) ?_
          refine E.OW.pure rfl rfl rfl (E.PV.fieldAddr fa79_1 rfl rfl) ?_
          refine E.OW.pure rfl rfl rfl (E.PV.load (i := 2) na31 rfl rfl rfl rfl) ?_
          refine E.OW.pure rfl rfl rfl (E.PV.len Try.underlying31 rfl rfl) ?_
          refine E.OW.pure rfl rfl rfl (E.PV.build (ps := [(0, .tmp 28), (1, .const (.int .i64 3))]) rfl rfl (fun w => bld164_0_1 _ _ w)) ?_
          refine E.OW.pure rfl rfl rfl (E.PV.fieldAddr fa79_2 rfl rfl) ?_
          refine E.OW.pure rfl rfl rfl (E.PV.load (i := 2) na31 rfl rfl rfl rfl) ?_
          refine E.OW.pure rfl rfl rfl (E.PV.len Try.underlying31 rfl rfl) ?_
          refine E.OW.pure rfl rfl rfl (E.PV.build (ps := [(0, .tmp 32), (1, .const (.int .i64 3))]) rfl rfl (fun w => bld164_0_1 _ _ w)) ?_
          refine E.OW.pure rfl rfl rfl (E.PV.fieldAddr fa79_3 rfl rfl) ?_
          refine E.OW.pure rfl rfl rfl (E.PV.load (i := 2) na3 rfl rfl rfl rfl) ?_
          refine E.OW.pure rfl rfl rfl (E.PV.build (ps := [(0, .tmp 35), (1, .const (.int .i64 8))]) rfl rfl (fun w => bld164_0_1 _ _ w)) ?_
          refine E.OW.pure rfl rfl rfl (E.PV.fieldAddr fa79_4 rfl rfl) ?_
          refine E.OW.pure rfl rfl rfl (E.PV.load (i := 2) na3 rfl rfl rfl rfl) ?_
          refine E.OW.pure rfl rfl rfl (E.PV.build (ps := [(0, .tmp 38), (1, .const (.int .i64 8))]) rfl rfl (fun w => bld164_0_1 _ _ w)) ?_
          refine E.OW.pure rfl rfl rfl (E.PV.fieldAddr fa79_5 rfl rfl) ?_
          refine E.OW.pure rfl rfl rfl (E.PV.load (i := 2) na3 rfl rfl rfl rfl) ?_
          refine E.OW.pure rfl rfl rfl (E.PV.build (ps := [(0, .tmp 41), (1, .const (.int .i64 8))]) rfl rfl (fun w => bld164_0_1 _ _ w)) ?_
          refine E.OW.pure rfl rfl rfl (E.PV.fieldAddr fa79_6 rfl rfl) ?_
          refine E.OW.pure rfl rfl rfl (E.PV.load (i := 2) na3 rfl rfl rfl rfl) ?_
          refine E.OW.pure rfl rfl rfl (E.PV.build (ps := [(0, .tmp 44), (1, .const (.int .i64 16))]) rfl rfl (fun w => bld164_0_1 _ _ w)) ?_
          refine E.OW.pure rfl rfl rfl (E.PV.fieldAddr fa79_7 rfl rfl) ?_
          refine E.OW.pure rfl rfl rfl (E.PV.load (i := 2) na3 rfl rfl rfl rfl) ?_
          refine E.OW.pure rfl rfl rfl (E.PV.build (ps := [(0, .tmp 47), (1, .const (.int .i64 64))]) rfl rfl (fun w => bld164_0_1 _ _ w)) ?_
          refine E.OW.buildSlice (Et := 164) (sz := 2) (cs := E.pairs (Cf.lims m.q)) (ps := [(0, .tmp 25), (1, .tmp 29), (2, .tmp 33), (3, .tmp 36), (4, .tmp 39), (5, .tmp 42), (6, .tmp 45), (7, .tmp 48)]) rfl rfl rfl rfl rfl (by simp [Cf.lims]) (by unfold maxLen; omega) (fun w => bsl175_8_0_1_2_3_4_5_6_7 _ _ _ _ _ _ _ _ _ _ _ _ _ _ _ _ w) (fun AL => ?_)
          (refine E.OW.call nm136 rfl rfl rfl rfl rfl rfl _ (fun w hw => Wn_ok _ _ m.q w ?_) ?_; (focus (exact hw.rdrow (i := 0) rfl)); rintro _ _ ⟨rfl, rfl⟩)
          refine E.OW.pure rfl rfl rfl (E.PV.not rfl rfl) ?_
          refine E.OW.nil ?_
          refine E.then_n ?_
          refine E.CW.cond rfl (fun hc => ?_) (fun hc => ?_)
          · simp only [E.b0, E.b1, E.b2, E.b3, E.b4, E.b5, E.b6, E.b7, E.b8, E.b9, E.b10, E.b11, E.b12, E.b13, E.b14, E.b15, E.b16, E.b17, E.b18, E.b19, E.b20, reduceCtorEq] at hc
            all_goals (
              refine E.CW.seq ?_
              refine E.CW.region ?_
              refine E.OW.pure rfl rfl rfl (E.PV.assign rfl rfl) ?_
              refine E.OW.nil ?_
              refine E.then_n ?_
              refine E.CW.ret ?_
              refine E.then_ret ?_
              refine E.KR.one [] Try.results118 rfl rfl ?_
              have ha : Cf.absent m.q = false := by assumption
              have hnf : Cf.numbers m.q = false := by assumption
              exact ⟨by rw [Cf.checkTeam_if hv ht, ha]; simp [Cf.validTeam, hnf], rfl⟩)
          · simp only [E.b0, E.b1, E.b2, E.b3, E.b4, E.b5, E.b6, E.b7, E.b8, E.b9, E.b10, E.b11, E.b12, E.b13, E.b14, E.b15, E.b16, E.b17, E.b18, E.b19, E.b20, reduceCtorEq] at hc
            all_goals (
              refine E.CW.skip ?_
              refine E.then_n ?_
              refine E.CW.seq ?_
              have hnn : Cf.numbers m.q = true := by assumption
              have hnl := Cf.numbers_len hnn
              have hsi : Cf.i64s (Cf.spots m.q) := Cf.spots_i64 hf
              refine E.CW.region ?_
              refine E.OW.pure rfl rfl rfl (E.PV.makeFunc (f := .func 137) (fs := []) (cs := [.tmp 7]) rfl rfl rfl) ?_
              refine E.OW.pure rfl rfl rfl (E.PV.assign rfl rfl) ?_
              refine E.OW.nil ?_
              refine E.then_n ?_
              refine E.CW.seq ?_
              refine E.CW.seq ?_
              refine E.CW.region ?_
              refine E.OW.pure rfl rfl rfl (E.PV.loads (i := 3) is79 rfl rfl rfl rfl) ?_
              (refine E.OW.call nm100 rfl rfl rfl rfl rfl rfl _ (fun w hw => Sp_ok _ w ?_ ?_ ?_) ?_; (focus (refine hw.rdm ?_; assumption)); (focus (assumption)); (focus (omega)); rintro _ _ ⟨AS, cS, rfl, rfl⟩)
              refine E.OW.pure rfl rfl rfl (E.PV.assign rfl rfl) ?_
              refine E.OW.nil ?_
              refine E.then_n ?_
              refine E.CW.seq ?_
              refine E.CW.region ?_
              refine E.OW.pure rfl rfl rfl (E.PV.move rfl rfl) ?_
              refine E.OW.pure rfl rfl rfl (E.PV.move rfl rfl) ?_
              (refine E.OW.call nm139 rfl rfl rfl rfl rfl rfl _ (fun w hw => CFI_ok _ _ (Cf.spots m.q) (fun p => !decide (p ∈ (Fl.priv a b l t).1)) 137 _ w nm137 (fun w2 hw2 x => by simpa using Fo_ok _ _ _ _ x w2 (hw2.rd (hw.rdblk (i := 2) rfl)) (by omega) (hw2.rd (hw.rdrow (i := 3) rfl))) ?_ ?_) ?_; (focus (omega)); (focus (exact hw.rdrow (i := 0) rfl)); rintro _ _ ⟨rfl, rfl⟩)
              refine E.OW.pure rfl rfl rfl (E.PV.move rfl rfl) ?_
              all_goals (refine E.OW.split 58 rfl (fun hc => ?_) (fun hc => ?_) <;> (try simp only [E.b0, E.b1, E.b2, E.b3, E.b4, E.b5, E.b6, E.b7, E.b8, E.b9, E.b10, E.b11, E.b12, E.b13, E.b14, E.b15, E.b16, E.b17, E.b18, E.b19, E.b20, reduceCtorEq] at hc) <;> (try (exfalso; first | assumption | contradiction | omega)))
              all_goals (first | (refine E.OW.off rfl rfl rfl ?_) | (refine E.OW.pure rfl rfl rfl (E.PV.move rfl rfl) ?_))
              all_goals (first | (refine E.OW.off rfl rfl rfl ?_) | ((refine E.OW.call nm140 rfl rfl rfl rfl rfl rfl _ (fun w hw => Ds_ok _ _ (Cf.spots m.q) w hsi ?_ ?_) ?_; (focus (omega)); (focus (exact hw.rdrow (i := 0) rfl)); rintro _ _ ⟨rfl, rfl⟩)))
              all_goals (first | (refine E.OW.off rfl rfl rfl ?_) | (refine E.OW.pure rfl rfl rfl (E.PV.not rfl rfl) ?_))
              all_goals (first | (refine E.OW.pure rfl rfl rfl (E.PV.pick_t rfl rfl rfl) ?_) | (refine E.OW.pure rfl rfl rfl (E.PV.pick_f rfl rfl rfl) ?_))
              all_goals (
                refine E.OW.nil ?_
                refine E.then_n ?_
                refine E.CW.cond rfl (fun hc => ?_) (fun hc => ?_)
                · simp only [E.b0, E.b1, E.b2, E.b3, E.b4, E.b5, E.b6, E.b7, E.b8, E.b9, E.b10, E.b11, E.b12, E.b13, E.b14, E.b15, E.b16, E.b17, E.b18, E.b19, E.b20, reduceCtorEq] at hc
                  all_goals (
                    refine E.CW.seq ?_
                    refine E.CW.region ?_
                    refine E.OW.pure rfl rfl rfl (E.PV.assign rfl rfl) ?_
                    refine E.OW.nil ?_
                    refine E.then_n ?_
                    refine E.CW.ret ?_
                    refine E.then_ret ?_
                    refine E.KR.one [] Try.results118 rfl rfl ?_
                    have ha : Cf.absent m.q = false := by assumption
                    first | exact ⟨congrArg (Value.int .i64) (Cf.ct_own hv ht ha (by assumption)).symm, rfl⟩ | exact ⟨congrArg (Value.int .i64) (Cf.ct_dup hv ht ha (by assumption)).symm, rfl⟩)
                · first | ((cases hc; done)) | (simp only [E.b0, E.b1, E.b2, E.b3, E.b4, E.b5, E.b6, E.b7, E.b8, E.b9, E.b10, E.b11, E.b12, E.b13, E.b14, E.b15, E.b16, E.b17, E.b18, E.b19, E.b20, reduceCtorEq] at hc)
                  all_goals (
                    refine E.CW.skip ?_
                    refine E.then_n ?_
                    refine E.CW.seq ?_
                    refine E.CW.region ?_
                    refine E.OW.pure rfl rfl rfl (E.PV.assign rfl rfl) ?_
                    refine E.OW.nil ?_
                    refine E.then_n ?_
                    refine E.CW.ret ?_
                    refine E.KR.one [] Try.results118 rfl rfl ?_
                    exact ⟨congrArg (Value.int .i64) (Cf.ct_yes hv ht hnn (by assumption) (by assumption)).symm, rfl⟩)))))

end Go.Proofs.Ytflkbabhbnmajaa

/- Walks (printed by gen.py). -/
namespace Go.Proofs.Ytflkbabhbnmajaa
open Go Go.RowKit
set_option linter.unusedSimpArgs false
set_option linter.unusedVariables false

set_option maxRecDepth 100000 in
theorem Pr_ok (g : E.Cfg) (t : Int) (w0 : World) (hg : g.rd w0 (E.Old w0)) (hgf : g.q.fit) :
    Calls Try.prog 95 #[g.v, .int .i64 t] w0 (E.Post w0 (E.Old w0) fun v Hn => v = .bool (Cf.present g.q.ts t) ∧ Hn = []) := by
  obtain ⟨hX1, hX2, hX3, hX4⟩ := id hg
  have hgl := E.Cfg.fit_len hgf
  refine E.calls_of (vs := [g.v, .int .i64 t]) (H := []) Try.func95 Try.ntmps95 rfl rfl (E.HA.start w0) ?_
  refine E.CW.seq ?_
  refine E.CW.region ?_
  refine E.OW.box rfl rfl rfl rfl rfl rfl (fun B1 => ?_)
  refine E.OW.pure rfl rfl rfl (E.PV.assign rfl rfl) ?_
  refine E.OW.nil ?_
  refine E.then_n ?_
  refine E.CW.seq ?_
  refine E.CW.region ?_
  refine E.OW.pure rfl rfl rfl (E.PV.move rfl rfl) ?_
  refine E.OW.pure rfl rfl rfl (E.PV.geq rfl rfl rfl) ?_
  refine E.OW.pure rfl rfl rfl (E.PV.move rfl rfl) ?_
  all_goals (refine E.OW.split 7 rfl (fun hc => ?_) (fun hc => ?_) <;> (try simp only [E.b0, E.b1, E.b2, E.b3, E.b4, E.b5, E.b6, E.b7, E.b8, E.b9, E.b10, E.b11, E.b12, E.b13, E.b14, E.b15, E.b16, E.b17, E.b18, E.b19, E.b20, reduceCtorEq] at hc) <;> (try (exfalso; first | assumption | contradiction | omega)))
  all_goals (first | (refine E.OW.off rfl rfl rfl ?_) | (refine E.OW.pure rfl rfl rfl (E.PV.move rfl rfl) ?_))
  all_goals (first | (refine E.OW.off rfl rfl rfl ?_) | (refine E.OW.pure rfl rfl rfl (E.PV.fieldAddr fa28_2 rfl rfl) ?_))
  all_goals (first | (refine E.OW.off rfl rfl rfl ?_) | (refine E.OW.pure rfl rfl rfl (E.PV.load (i := 0) na25 rfl rfl rfl rfl) ?_))
  all_goals (first | (refine E.OW.off rfl rfl rfl ?_) | (refine E.OW.pure rfl rfl rfl (E.PV.len Try.underlying25 rfl rfl) ?_))
  all_goals (first | (refine E.OW.off rfl rfl rfl ?_) | (refine E.OW.pure rfl rfl rfl (E.PV.lss rfl rfl rfl) ?_))
  all_goals (first | (refine E.OW.pure rfl rfl rfl (E.PV.pick_t rfl rfl rfl) ?_) | (refine E.OW.pure rfl rfl rfl (E.PV.pick_f rfl rfl rfl) ?_))
  all_goals (refine E.OW.pure rfl rfl rfl (E.PV.move rfl rfl) ?_)
  all_goals (first | (refine E.OW.put 14 (.bool false) (v := .bool false) rfl rfl ?_) | (refine E.OW.split 14 rfl (fun hc => ?_) (fun hc => ?_) <;> (try simp only [E.b0, E.b1, E.b2, E.b3, E.b4, E.b5, E.b6, E.b7, E.b8, E.b9, E.b10, E.b11, E.b12, E.b13, E.b14, E.b15, E.b16, E.b17, E.b18, E.b19, E.b20, reduceCtorEq] at hc) <;> (try (exfalso; first | assumption | contradiction | omega))))
  all_goals (first | (refine E.OW.off rfl rfl rfl ?_) | (refine E.OW.pure rfl rfl rfl (E.PV.fieldAddr fa28_2 rfl rfl) ?_))
  all_goals (first | (refine E.OW.off rfl rfl rfl ?_) | (refine E.OW.pure rfl rfl rfl (E.PV.load (i := 0) na25 rfl rfl rfl rfl) ?_))
  all_goals (first | (refine E.OW.off rfl rfl rfl ?_) | (refine E.OW.pure rfl rfl rfl (E.PV.move rfl rfl) ?_))
  all_goals (first | (refine E.OW.off rfl rfl rfl ?_) | (refine E.OW.pure rfl rfl rfl (E.PV.indexAddr (E.rdc hX3) Try.underlying25 in79 rfl rfl rfl (E.tn ?_) ?_ ?_ (by decide)) ?_; (focus (omega)); (focus (first | (simp; done) | (simp; omega))); (focus (omega))))
  all_goals (first | (refine E.OW.off rfl rfl rfl ?_) | (refine E.OW.pure rfl rfl rfl (E.PV.load_tm (E.rdc hX3) is79 rfl rfl ?_) ?_; (focus (omega))))
  all_goals (first | (refine E.OW.off rfl rfl rfl ?_) | ((refine E.OW.call nm123 rfl rfl rfl rfl rfl rfl _ (fun w hw => Ab_ok (g.ts.getD t.toNat E.Tm.z) w (hw.rdm (hg.m _ (E.Tm.mem (by omega)))) (E.Cfg.fit_m hgf _ (E.Tm.mem (by omega)))) ?_; rintro _ _ ⟨rfl, rfl⟩)))
  all_goals (first | (refine E.OW.off rfl rfl rfl ?_) | (refine E.OW.pure rfl rfl rfl (E.PV.not rfl rfl) ?_))
  all_goals (first | (refine E.OW.pure rfl rfl rfl (E.PV.pick_t rfl rfl rfl) ?_) | (refine E.OW.pure rfl rfl rfl (E.PV.pick_f rfl rfl rfl) ?_))
  all_goals (refine E.OW.pure rfl rfl rfl (E.PV.assign rfl rfl) ?_)
  all_goals (
    refine E.OW.nil ?_
    refine E.then_n ?_
    refine E.CW.ret ?_
    refine E.KR.one [] Try.results95 rfl rfl ?_
    exact ⟨by rw [E.Cfg.present_eq]; first | (rw [decide_eq_true (show 0 ≤ t by omega), decide_eq_true (show t < (g.ts.length : Int) by omega)]; rfl) | (rw [decide_eq_false (show ¬ 0 ≤ t by omega)]; rfl) | (rw [decide_eq_false (show ¬ t < (g.ts.length : Int) by omega), Bool.and_false]; rfl), rfl⟩)

set_option maxRecDepth 100000 in
theorem St1_ok (g : E.Cfg) (B : Nat) (x : UInt8) (w0 : World) (hB : E.Rd w0 (E.Old w0) (some ⟨B, 0, none⟩) g.cells) (hg : g.rd w0 (E.Old w0)) (hgf : g.q.fit) :
    Calls Try.prog 141 #[.int .u8 (x.toNat : Int), .pointer (some ⟨B, 0, none⟩)] w0 (E.Post w0 (E.Old w0) fun v Hn => v = .bool (!Cf.belongs g.q.ts x) ∧ Hn = []) := by
  obtain ⟨hX1, hX2, hX3, hX4⟩ := id hg
  have hgl := E.Cfg.fit_len hgf
  have hu := x.toNat_lt
  refine E.calls_of (vs := [.int .u8 (x.toNat : Int), .pointer (some ⟨B, 0, none⟩)]) (H := []) Try.func141 Try.ntmps141 rfl rfl (E.HA.start w0) ?_
  refine E.CW.seq ?_
  refine E.CW.region ?_
  refine E.OW.pure rfl rfl rfl (E.PV.assign rfl rfl) ?_
  refine E.OW.nil ?_
  refine E.then_n ?_
  refine E.CW.seq ?_
  refine E.CW.region ?_
  refine E.OW.pure rfl rfl rfl (E.PV.move rfl rfl) ?_
  refine E.OW.pure rfl rfl rfl (E.PV.neq rfl rfl rfl) ?_
  refine E.OW.pure rfl rfl rfl (E.PV.move rfl rfl) ?_
  all_goals (refine E.OW.split 6 rfl (fun hc => ?_) (fun hc => ?_) <;> (try simp only [E.b0, E.b1, E.b2, E.b3, E.b4, E.b5, E.b6, E.b7, E.b8, E.b9, E.b10, E.b11, E.b12, E.b13, E.b14, E.b15, E.b16, E.b17, E.b18, E.b19, E.b20, reduceCtorEq] at hc) <;> (try (exfalso; first | assumption | contradiction | omega)))
  all_goals (first | (refine E.OW.off rfl rfl rfl ?_) | (refine E.OW.pure rfl rfl rfl (E.PV.move rfl rfl) ?_))
  all_goals (first | (refine E.OW.off rfl rfl rfl ?_) | (refine E.OW.pure rfl rfl rfl (E.PV.neq rfl rfl rfl) ?_))
  all_goals (first | (refine E.OW.pure rfl rfl rfl (E.PV.pick_t rfl rfl rfl) ?_) | (refine E.OW.pure rfl rfl rfl (E.PV.pick_f rfl rfl rfl) ?_))
  all_goals (refine E.OW.pure rfl rfl rfl (E.PV.move rfl rfl) ?_)
  all_goals (first | (refine E.OW.put 10 (.bool false) (v := .bool false) rfl rfl ?_) | (refine E.OW.split 10 rfl (fun hc => ?_) (fun hc => ?_) <;> (try simp only [E.b0, E.b1, E.b2, E.b3, E.b4, E.b5, E.b6, E.b7, E.b8, E.b9, E.b10, E.b11, E.b12, E.b13, E.b14, E.b15, E.b16, E.b17, E.b18, E.b19, E.b20, reduceCtorEq] at hc) <;> (try (exfalso; first | assumption | contradiction | omega))))
  all_goals (first | (refine E.OW.off rfl rfl rfl ?_) | (refine E.OW.pure rfl rfl rfl (E.PV.loads_cfg (g := g) (E.rdc hB) is28 rfl rfl) ?_))
  all_goals (first | (refine E.OW.off rfl rfl rfl ?_) | (refine E.OW.pure rfl rfl rfl (E.PV.move rfl rfl) ?_))
  all_goals (first | (refine E.OW.off rfl rfl rfl ?_) | (refine E.OW.pure rfl rfl rfl (E.PV.conv_in Try.underlying5 Try.underlying3 rfl rfl ?_) ?_; (focus (first | exact E.wrap_u8 _ | (simp only [IntKind.wrap_i64, IntKind.wrap_u64, IntKind.wrap_u8]; omega)))))
  all_goals (first | (refine E.OW.off rfl rfl rfl ?_) | (refine E.OW.pure rfl rfl rfl (E.PV.sub_i64 rfl rfl rfl ?_) ?_; (focus (omega))))
  all_goals (first | (refine E.OW.off rfl rfl rfl ?_) | ((refine E.OW.call nm95 rfl rfl rfl rfl rfl rfl _ (fun w hw => Pr_ok _ _ w ?_ ?_) ?_; (focus (refine hw.rdC ?_; assumption)); (focus (assumption)); rintro _ _ ⟨rfl, rfl⟩)))
  all_goals (first | (refine E.OW.off rfl rfl rfl ?_) | (refine E.OW.pure rfl rfl rfl (E.PV.not rfl rfl) ?_))
  all_goals (first | (refine E.OW.pure rfl rfl rfl (E.PV.pick_t rfl rfl rfl) ?_) | (refine E.OW.pure rfl rfl rfl (E.PV.pick_f rfl rfl rfl) ?_))
  all_goals (refine E.OW.pure rfl rfl rfl (E.PV.assign rfl rfl) ?_)
  all_goals (
    refine E.OW.nil ?_
    refine E.then_n ?_
    refine E.CW.ret ?_
    refine E.KR.one [] Try.results141 rfl rfl ?_
    exact ⟨by unfold Cf.belongs; first | (rw [decide_eq_true (show (x.toNat : Int) = 0 by omega)]; rfl) | (rw [decide_eq_true (show (x.toNat : Int) = 255 by omega), Bool.or_true]; rfl) | (rw [decide_eq_false (show ¬ (x.toNat : Int) = 0 by omega), decide_eq_false (show ¬ (x.toNat : Int) = 255 by omega)]; rfl), rfl⟩)

set_option maxRecDepth 100000 in
theorem Str_ok (g : E.Cfg) (w0 : World) :
    Calls Try.prog 119 #[g.v] w0 (E.Post w0 (E.Old w0) fun v Hn => ∃ B : Nat, v = .func (.func 141) #[] #[.pointer (some ⟨B, 0, none⟩)] ∧ Hn = [E.HP.blk B 28 g.cells]) := by
  refine E.calls_of (vs := [g.v]) (H := []) Try.func119 Try.ntmps119 rfl rfl (E.HA.start w0) ?_
  refine E.CW.seq ?_
  refine E.CW.region ?_
  refine E.OW.box rfl rfl rfl rfl rfl rfl (fun B1 => ?_)
  refine E.OW.pure rfl rfl rfl (E.PV.assign rfl rfl) ?_
  refine E.OW.nil ?_
  refine E.then_n ?_
  refine E.CW.seq ?_
  refine E.CW.region ?_
  refine E.OW.pure rfl rfl rfl (E.PV.makeFunc (f := .func 141) (fs := []) (cs := [.tmp 1]) rfl rfl rfl) ?_
  refine E.OW.pure rfl rfl rfl (E.PV.assign rfl rfl) ?_
  refine E.OW.nil ?_
  refine E.then_n ?_
  refine E.CW.ret ?_
  refine E.KR.one [0] Try.results119 rfl rfl ?_
  exact ⟨_, rfl, rfl⟩

set_option maxRecDepth 100000 in
theorem Tn_ok (g : E.Cfg) (w0 : World) (hg : g.rd w0 (E.Old w0)) (hgf : g.q.fit) :
    Calls Try.prog 98 #[g.v] w0 (E.Post w0 (E.Old w0) fun v Hn => ∃ A2 c2, v = .slice A2 (Cf.tenants g.q.ts g.ts.length).length c2 ∧ Hn = [E.HP.row 3 1 A2 (Cf.tenants g.q.ts g.ts.length).length c2 (E.ints (Cf.tenants g.q.ts g.ts.length))]) := by
  obtain ⟨hX1, hX2, hX3, hX4⟩ := id hg
  have hgl := E.Cfg.fit_len hgf
  refine E.calls_of (vs := [g.v]) (H := []) Try.func98 Try.ntmps98 rfl rfl (E.HA.start w0) ?_
  refine E.CW.seq ?_
  refine E.CW.region ?_
  refine E.OW.box rfl rfl rfl rfl rfl rfl (fun B1 => ?_)
  refine E.OW.pure rfl rfl rfl (E.PV.assign rfl rfl) ?_
  refine E.OW.nil ?_
  refine E.then_n ?_
  refine E.CW.seq ?_
  refine E.CW.region ?_
  refine E.OW.pure rfl rfl rfl (E.PV.assign rfl rfl) ?_
  refine E.OW.nil ?_
  refine E.then_n ?_
  refine E.CW.seq ?_
  refine E.CW.seq ?_
  refine E.CW.nilrow 3 1 ?_
  refine E.CW.region ?_
  refine E.OW.pure rfl rfl rfl (E.PV.fieldAddr fa28_2 rfl rfl) ?_
  refine E.OW.pure rfl rfl rfl (E.PV.load (i := 1) na25 rfl rfl rfl rfl) ?_
  refine E.OW.pure rfl rfl rfl (E.PV.len Try.underlying25 rfl rfl) ?_
  refine E.OW.pure rfl rfl rfl (E.PV.move rfl rfl) ?_
  refine E.OW.nil ?_
  refine E.then_n ?_
  refine E.CW.block ?_
  refine E.CW.loopk [1, 7] 1 rfl rfl (fun mm mods Hm => ∃ k : Nat, ∃ D : Option Addr, ∃ e : Nat, mm = g.ts.length - k ∧ mods = [(8, .int .i64 k), (3, .slice D (Cf.tenants g.q.ts k).length e)] ∧ Hm = [E.HP.row 3 1 D (Cf.tenants g.q.ts k).length e (E.ints (Cf.tenants g.q.ts k))] ∧ k ≤ g.ts.length) (g.ts.length) ?_ ?_
  · exact ⟨[(8, _), (3, _)], (by repeat (first | exact E.cov_nil | refine ⟨rfl, ?_⟩)), 0, none, 0, rfl, rfl, rfl, by omega⟩
  · rintro _ _ _ ⟨k, D, e, rfl, rfl, rfl, hk⟩
    have htl := Cf.tenants_len g.q.ts k
    refine E.CW.seq ?_
    refine E.CW.region ?_
    refine E.OW.pure rfl rfl rfl (E.PV.lss rfl rfl rfl) ?_
    refine E.OW.nil ?_
    refine E.then_n ?_
    refine E.CW.seq ?_
    refine E.CW.cond rfl (fun hc => ?_) (fun hc => ?_)
    · simp only [E.b0, E.b1, E.b2, E.b3, E.b4, E.b5, E.b6, E.b7, E.b8, E.b9, E.b10, E.b11, E.b12, E.b13, E.b14, E.b15, E.b16, E.b17, E.b18, E.b19, E.b20, reduceCtorEq] at hc
      all_goals (
        refine E.CW.skip ?_
        refine E.then_n ?_
        refine E.CW.seq ?_
        refine E.CW.block ?_
        refine E.CW.seq ?_
        refine E.CW.region ?_
        refine E.OW.pure rfl rfl rfl (E.PV.move rfl rfl) ?_
        refine E.OW.pure rfl rfl rfl (E.PV.assign rfl rfl) ?_
        refine E.OW.nil ?_
        refine E.then_n ?_
        refine E.CW.seq ?_
        refine E.CW.region ?_
        refine E.OW.pure rfl rfl rfl (E.PV.loads (i := 1) is28 rfl rfl rfl rfl) ?_
        refine E.OW.pure rfl rfl rfl (E.PV.move rfl rfl) ?_
        (refine E.OW.call nm95 rfl rfl rfl rfl rfl rfl _ (fun w hw => Pr_ok _ _ w ?_ ?_) ?_; (focus (refine hw.rdC ?_; assumption)); (focus (assumption)); rintro _ _ ⟨rfl, rfl⟩)
        refine E.OW.nil ?_
        refine E.then_n ?_
        refine E.CW.cond rfl (fun hc => ?_) (fun hc => ?_)
        · skip
          all_goals (
            refine E.CW.region ?_
            refine E.OW.pure rfl rfl rfl (E.PV.move rfl rfl) ?_
            refine E.OW.pure rfl rfl rfl (E.PV.move rfl rfl) ?_
            refine E.OW.buildSlice (Et := 3) (sz := 1) (ps := [(0, .tmp 15)]) rfl rfl rfl rfl rfl (by simp) (by unfold maxLen; omega) (fun w => bsl31_1_0 _ w) (fun A2 => ?_)
            refine E.OW.app_int1 (j := 0) (i := 0) Try.underlying31 in3 rfl rfl rfl rfl rfl rfl rfl rfl rfl rfl ?_ (fun A3 c3 => ?_); (focus ((first | omega | (simp only [List.length_append, List.length_cons, List.length_nil] at *; omega) | (unfold maxLen at *; omega))))
            refine E.OW.pure rfl rfl rfl (E.PV.assign rfl rfl) ?_
            refine E.OW.nil ?_
            refine E.blk_n ?_
            refine E.then_n ?_
            refine E.CW.region ?_
            refine E.OW.pure rfl rfl rfl (E.PV.add_i64 rfl rfl rfl ?_) ?_; (focus (omega))
            refine E.OW.pure rfl rfl rfl (E.PV.move rfl rfl) ?_
            refine E.OW.nil ?_
            refine E.then_nf ?_
            refine ⟨_, [(8, _), (3, _)], [0, 0], _, ?_, by repeat (first | exact E.cov_nil | refine ⟨rfl, ?_⟩), rfl, k + 1, _, _, rfl, by rw [Cf.tenants_yes (by assumption)]; rfl, by rw [Cf.tenants_yes (by assumption)], by omega⟩
            omega)
        · skip
          all_goals (
            refine E.CW.skip ?_
            refine E.blk_n ?_
            refine E.then_n ?_
            refine E.CW.region ?_
            refine E.OW.pure rfl rfl rfl (E.PV.add_i64 rfl rfl rfl ?_) ?_; (focus (omega))
            refine E.OW.pure rfl rfl rfl (E.PV.move rfl rfl) ?_
            refine E.OW.nil ?_
            refine E.then_nf ?_
            refine ⟨_, [(8, _), (3, _)], [0, 0], _, ?_, by repeat (first | exact E.cov_nil | refine ⟨rfl, ?_⟩), rfl, k + 1, D, e, rfl, by rw [Cf.tenants_no (by assumption)]; rfl, by rw [Cf.tenants_no (by assumption)], by omega⟩
            omega))
    · simp only [E.b0, E.b1, E.b2, E.b3, E.b4, E.b5, E.b6, E.b7, E.b8, E.b9, E.b10, E.b11, E.b12, E.b13, E.b14, E.b15, E.b16, E.b17, E.b18, E.b19, E.b20, reduceCtorEq] at hc
      all_goals (
        refine E.CW.exit ?_
        refine E.then_x ?_
        refine E.then_x ?_
        refine E.blk_eq ?_
        refine E.then_n ?_
        refine E.CW.seq ?_
        refine E.CW.region ?_
        refine E.OW.pure rfl rfl rfl (E.PV.move rfl rfl) ?_
        refine E.OW.pure rfl rfl rfl (E.PV.assign rfl rfl) ?_
        refine E.OW.nil ?_
        refine E.then_n ?_
        refine E.CW.ret ?_
        refine E.KR.one [0] Try.results98 rfl rfl ?_
        obtain rfl : k = g.ts.length := by omega
        exact ⟨_, _, rfl, rfl⟩)

set_option maxRecDepth 100000 in
theorem Ck_ok (g : E.Cfg) (w0 : World) (hg : g.rd w0 (E.Old w0)) (hgf : g.q.fit) :
    Calls Try.prog 87 #[g.v] w0 (E.Post w0 (E.Old w0) fun v Hn => v = .int .i64 (Cf.check g.q) ∧ Hn = []) := by
  obtain ⟨hX1, hX2, hX3, hX4⟩ := id hg
  have hgl := E.Cfg.fit_len hgf
  refine E.calls_of (vs := [g.v]) (H := []) Try.func87 Try.ntmps87 rfl rfl (E.HA.start w0) ?_
  refine E.CW.seq ?_
  refine E.CW.region ?_
  refine E.OW.box rfl rfl rfl rfl rfl rfl (fun B1 => ?_)
  refine E.OW.pure rfl rfl rfl (E.PV.assign rfl rfl) ?_
  refine E.OW.nil ?_
  refine E.then_n ?_
  refine E.CW.seq ?_
  refine E.CW.seq ?_
  refine E.CW.region ?_
  refine E.OW.pure rfl rfl rfl (E.PV.fieldAddr fa28_0 rfl rfl) ?_
  refine E.OW.pure rfl rfl rfl (E.PV.loads (i := 0) is24 rfl rfl rfl rfl) ?_
  (refine E.OW.call nm116 rfl rfl rfl rfl rfl rfl _ (fun w hw => Check_ok _ _ _ _ g.l w ?_ ?_) ?_; (focus (omega)); (focus (refine hw.rd ?_; assumption)); rintro _ _ ⟨rfl, rfl⟩)
  refine E.OW.pure rfl rfl rfl (E.PV.assign rfl rfl) ?_
  refine E.OW.nil ?_
  refine E.then_n ?_
  refine E.CW.seq ?_
  refine E.CW.region ?_
  refine E.OW.pure rfl rfl rfl (E.PV.move rfl rfl) ?_
  refine E.OW.pure rfl rfl rfl (E.PV.neq rfl rfl rfl) ?_
  refine E.OW.nil ?_
  refine E.then_n ?_
  refine E.CW.cond rfl (fun hc => ?_) (fun hc => ?_)
  · simp only [E.b0, E.b1, E.b2, E.b3, E.b4, E.b5, E.b6, E.b7, E.b8, E.b9, E.b10, E.b11, E.b12, E.b13, E.b14, E.b15, E.b16, E.b17, E.b18, E.b19, E.b20, reduceCtorEq] at hc
    all_goals (
      refine E.CW.seq ?_
      refine E.CW.region ?_
      refine E.OW.pure rfl rfl rfl (E.PV.move rfl rfl) ?_
      refine E.OW.pure rfl rfl rfl (E.PV.assign rfl rfl) ?_
      refine E.OW.nil ?_
      refine E.then_n ?_
      refine E.CW.ret ?_
      refine E.then_ret ?_
      refine E.KR.one [] Try.results87 rfl rfl ?_
      exact ⟨congrArg (Value.int .i64) (Cf.check_f (g := g.q) (by assumption)).symm, rfl⟩)
  · simp only [E.b0, E.b1, E.b2, E.b3, E.b4, E.b5, E.b6, E.b7, E.b8, E.b9, E.b10, E.b11, E.b12, E.b13, E.b14, E.b15, E.b16, E.b17, E.b18, E.b19, E.b20, reduceCtorEq] at hc
    all_goals (
      refine E.CW.skip ?_
      refine E.then_n ?_
      refine E.CW.seq ?_
      refine E.CW.seq ?_
      have hv : Fl.validF g.a g.b g.l = true := Fl.checkF_zero.1 (by assumption)
      refine E.CW.region ?_
      refine E.OW.pure rfl rfl rfl (E.PV.fieldAddr fa28_1 rfl rfl) ?_
      refine E.OW.pure rfl rfl rfl (E.PV.load (i := 0) na22 rfl rfl rfl rfl) ?_
      (refine E.OW.call nm117 rfl rfl rfl rfl rfl rfl _ (fun w hw => CheckSlices_ok _ _ g.s w ?_ ?_) ?_; (focus (omega)); (focus (refine hw.rd ?_; assumption)); rintro _ _ ⟨rfl, rfl⟩)
      refine E.OW.pure rfl rfl rfl (E.PV.assign rfl rfl) ?_
      refine E.OW.nil ?_
      refine E.then_n ?_
      refine E.CW.seq ?_
      refine E.CW.region ?_
      refine E.OW.pure rfl rfl rfl (E.PV.move rfl rfl) ?_
      refine E.OW.pure rfl rfl rfl (E.PV.neq rfl rfl rfl) ?_
      refine E.OW.nil ?_
      refine E.then_n ?_
      refine E.CW.cond rfl (fun hc => ?_) (fun hc => ?_)
      · simp only [E.b0, E.b1, E.b2, E.b3, E.b4, E.b5, E.b6, E.b7, E.b8, E.b9, E.b10, E.b11, E.b12, E.b13, E.b14, E.b15, E.b16, E.b17, E.b18, E.b19, E.b20, reduceCtorEq] at hc
        all_goals (
          refine E.CW.seq ?_
          refine E.CW.region ?_
          refine E.OW.pure rfl rfl rfl (E.PV.move rfl rfl) ?_
          refine E.OW.pure rfl rfl rfl (E.PV.assign rfl rfl) ?_
          refine E.OW.nil ?_
          refine E.then_n ?_
          refine E.CW.ret ?_
          refine E.then_ret ?_
          refine E.KR.one [] Try.results87 rfl rfl ?_
          exact ⟨congrArg (Value.int .i64) (Cf.check_s (g := g.q) hv (by assumption)).symm, rfl⟩)
      · simp only [E.b0, E.b1, E.b2, E.b3, E.b4, E.b5, E.b6, E.b7, E.b8, E.b9, E.b10, E.b11, E.b12, E.b13, E.b14, E.b15, E.b16, E.b17, E.b18, E.b19, E.b20, reduceCtorEq] at hc
        all_goals (
          refine E.CW.skip ?_
          refine E.then_n ?_
          refine E.CW.seq ?_
          refine E.CW.seq ?_
          have hs := Cf.validS_of (s := g.s) (by assumption)
          have htn := E.Cfg.ts_len g
          refine E.CW.region ?_
          refine E.OW.pure rfl rfl rfl (E.PV.fieldAddr fa28_2 rfl rfl) ?_
          refine E.OW.pure rfl rfl rfl (E.PV.load (i := 0) na25 rfl rfl rfl rfl) ?_
          refine E.OW.pure rfl rfl rfl (E.PV.len Try.underlying25 rfl rfl) ?_
          refine E.OW.pure rfl rfl rfl (E.PV.gtr rfl rfl rfl) ?_
          refine E.OW.pure rfl rfl rfl (E.PV.move rfl rfl) ?_
          all_goals (refine E.OW.split 24 rfl (fun hc => ?_) (fun hc => ?_) <;> (try simp only [E.b0, E.b1, E.b2, E.b3, E.b4, E.b5, E.b6, E.b7, E.b8, E.b9, E.b10, E.b11, E.b12, E.b13, E.b14, E.b15, E.b16, E.b17, E.b18, E.b19, E.b20, reduceCtorEq] at hc) <;> (try (exfalso; first | assumption | contradiction | omega)))
          all_goals (first | (refine E.OW.off rfl rfl rfl ?_) | (refine E.OW.pure rfl rfl rfl (E.PV.loads (i := 0) is28 rfl rfl rfl rfl) ?_))
          all_goals (first | (refine E.OW.off rfl rfl rfl ?_) | ((refine E.OW.call nm98 rfl rfl rfl rfl rfl rfl _ (fun w hw => Tn_ok _ w ?_ ?_) ?_; (focus (refine hw.rdC ?_; assumption)); (focus (assumption)); rintro _ _ ⟨AT, cT, rfl, rfl⟩)))
          all_goals (first | (refine E.OW.off rfl rfl rfl ?_) | (refine E.OW.pure rfl rfl rfl (E.PV.len Try.underlying31 rfl rfl) ?_))
          all_goals (first | (refine E.OW.off rfl rfl rfl ?_) | (refine E.OW.pure rfl rfl rfl (E.PV.eql rfl rfl rfl) ?_))
          all_goals (first | (refine E.OW.pure rfl rfl rfl (E.PV.pick_t rfl rfl rfl) ?_) | (refine E.OW.pure rfl rfl rfl (E.PV.pick_f rfl rfl rfl) ?_))
          all_goals (
            refine E.OW.nil ?_
            refine E.then_n ?_
            refine E.CW.cond rfl (fun hc => ?_) (fun hc => ?_)
            · simp only [E.b0, E.b1, E.b2, E.b3, E.b4, E.b5, E.b6, E.b7, E.b8, E.b9, E.b10, E.b11, E.b12, E.b13, E.b14, E.b15, E.b16, E.b17, E.b18, E.b19, E.b20, reduceCtorEq] at hc
              all_goals (
                refine E.CW.seq ?_
                refine E.CW.region ?_
                refine E.OW.pure rfl rfl rfl (E.PV.assign rfl rfl) ?_
                refine E.OW.nil ?_
                refine E.then_n ?_
                refine E.CW.ret ?_
                refine E.then_ret ?_
                refine E.KR.one [] Try.results87 rfl rfl ?_
                exact ⟨congrArg (Value.int .i64) (Cf.check_t (g := g.q) hv hs (by first | exact Cf.teams_many (by rw [htn]; assumption) | exact Cf.teams_none (by rw [htn]; assumption))).symm, rfl⟩)
            · first | ((cases hc; done)) | (simp only [E.b0, E.b1, E.b2, E.b3, E.b4, E.b5, E.b6, E.b7, E.b8, E.b9, E.b10, E.b11, E.b12, E.b13, E.b14, E.b15, E.b16, E.b17, E.b18, E.b19, E.b20, reduceCtorEq] at hc)
              all_goals (
                refine E.CW.skip ?_
                refine E.then_n ?_
                refine E.CW.seq ?_
                refine E.CW.seq ?_
                have hten : ¬ ((Cf.tenants g.q.ts g.ts.length).length : Int) = 0 := by assumption
                refine E.CW.region ?_
                refine E.OW.pure rfl rfl rfl (E.PV.fieldAddr fa28_2 rfl rfl) ?_
                refine E.OW.pure rfl rfl rfl (E.PV.load (i := 1) na25 rfl rfl rfl rfl) ?_
                refine E.OW.pure rfl rfl rfl (E.PV.len Try.underlying25 rfl rfl) ?_
                refine E.OW.pure rfl rfl rfl (E.PV.move rfl rfl) ?_
                refine E.OW.nil ?_
                refine E.then_n ?_
                refine E.CW.block ?_
                refine E.CW.loopk [1, 31, 32] 0 rfl rfl (fun mm mods Hm => ∃ k : Nat, mm = g.ts.length - k ∧ mods = [(33, .int .i64 k)] ∧ Hm = [] ∧ (k ≤ g.ts.length ∧ ∀ j, j < k → Cf.teamOk g.q j = true)) (g.ts.length) ?_ ?_
                · exact ⟨[(33, _)], (by repeat (first | exact E.cov_nil | refine ⟨rfl, ?_⟩)), 0, rfl, rfl, rfl, by omega, fun j hj => by omega⟩
                · rintro _ _ _ ⟨k, rfl, rfl, rfl, hk, hI⟩
                  refine E.CW.seq ?_
                  refine E.CW.region ?_
                  refine E.OW.pure rfl rfl rfl (E.PV.lss rfl rfl rfl) ?_
                  refine E.OW.nil ?_
                  refine E.then_n ?_
                  refine E.CW.seq ?_
                  refine E.CW.cond rfl (fun hc => ?_) (fun hc => ?_)
                  · simp only [E.b0, E.b1, E.b2, E.b3, E.b4, E.b5, E.b6, E.b7, E.b8, E.b9, E.b10, E.b11, E.b12, E.b13, E.b14, E.b15, E.b16, E.b17, E.b18, E.b19, E.b20, reduceCtorEq] at hc
                    all_goals (
                      refine E.CW.skip ?_
                      refine E.then_n ?_
                      refine E.CW.seq ?_
                      refine E.CW.block ?_
                      refine E.CW.seq ?_
                      refine E.CW.region ?_
                      refine E.OW.pure rfl rfl rfl (E.PV.move rfl rfl) ?_
                      refine E.OW.pure rfl rfl rfl (E.PV.indexAddr (E.rdc hX3) Try.underlying25 in79 rfl rfl rfl rfl ?_ ?_ (by decide)) ?_; (focus (first | (simp; done) | (simp; omega))); (focus (omega))
                      refine E.OW.pure rfl rfl rfl (E.PV.load_tm (E.rdc hX3) is79 rfl rfl ?_) ?_; (focus (omega))
                      refine E.OW.alloc (in79.zr) rfl rfl rfl rfl rfl (fun B2 => ?_)
                      refine E.OW.pure rfl rfl rfl (E.PV.assign rfl rfl) ?_
                      refine E.OW.store (i := 0) in79.size rfl rfl rfl rfl rfl rfl rfl rfl rfl ?_
                      refine E.OW.nil ?_
                      refine E.then_n ?_
                      refine E.CW.seq ?_
                      have hgt := E.Cfg.ts_getD g k
                      refine E.CW.region ?_
                      refine E.OW.pure rfl rfl rfl (E.PV.fieldAddr fa28_0 rfl rfl) ?_
                      refine E.OW.pure rfl rfl rfl (E.PV.loads (i := 2) is24 rfl rfl rfl rfl) ?_
                      refine E.OW.pure rfl rfl rfl (E.PV.move rfl rfl) ?_
                      refine E.OW.pure rfl rfl rfl (E.PV.loads (i := 0) is79 rfl rfl rfl rfl) ?_
                      (refine E.OW.call nm118 rfl rfl rfl rfl rfl rfl _ (fun w hw => CT_ok _ _ _ _ g.l (k : Int) (g.ts.getD k E.Tm.z) w ?_ ?_ (hw.rdm (hg.m _ (E.Tm.mem (by omega)))) (E.Cfg.fit_m hgf _ (E.Tm.mem (by omega)))) ?_; (focus (omega)); (focus (refine hw.rd ?_; assumption)); rintro _ _ ⟨rfl, rfl⟩)
                      refine E.OW.pure rfl rfl rfl (E.PV.assign rfl rfl) ?_
                      refine E.OW.nil ?_
                      refine E.then_n ?_
                      refine E.CW.seq ?_
                      refine E.CW.region ?_
                      refine E.OW.pure rfl rfl rfl (E.PV.move rfl rfl) ?_
                      refine E.OW.pure rfl rfl rfl (E.PV.neq rfl rfl rfl) ?_
                      refine E.OW.nil ?_
                      refine E.then_n ?_
                      refine E.CW.cond rfl (fun hc => ?_) (fun hc => ?_)
                      · simp only [E.b0, E.b1, E.b2, E.b3, E.b4, E.b5, E.b6, E.b7, E.b8, E.b9, E.b10, E.b11, E.b12, E.b13, E.b14, E.b15, E.b16, E.b17, E.b18, E.b19, E.b20, reduceCtorEq] at hc
                        all_goals (
                          refine E.CW.seq ?_
                          refine E.CW.region ?_
                          refine E.OW.pure rfl rfl rfl (E.PV.move rfl rfl) ?_
                          refine E.OW.pure rfl rfl rfl (E.PV.assign rfl rfl) ?_
                          refine E.OW.nil ?_
                          refine E.then_n ?_
                          refine E.CW.ret ?_
                          refine E.blk_ret ?_
                          refine E.then_ret ?_
                          refine E.then_ret ?_
                          refine E.blk_ret ?_
                          refine E.then_ret ?_
                          refine E.KR.one [] Try.results87 rfl rfl ?_
                          obtain ⟨h1, h2⟩ := Cf.teamOk_not (g := g.q) hv (show k < 3 by omega) (by rw [hgt]; assumption)
                          rw [hgt] at h2
                          exact ⟨congrArg (Value.int .i64) (h2.trans (Cf.check_t (g := g.q) hv hs (Cf.teams_at (by rw [htn]; omega) h1)).symm), rfl⟩)
                      · simp only [E.b0, E.b1, E.b2, E.b3, E.b4, E.b5, E.b6, E.b7, E.b8, E.b9, E.b10, E.b11, E.b12, E.b13, E.b14, E.b15, E.b16, E.b17, E.b18, E.b19, E.b20, reduceCtorEq] at hc
                        all_goals (
                          refine E.CW.skip ?_
                          refine E.blk_n ?_
                          refine E.then_n ?_
                          refine E.CW.region ?_
                          refine E.OW.pure rfl rfl rfl (E.PV.add_i64 rfl rfl rfl ?_) ?_; (focus (omega))
                          refine E.OW.pure rfl rfl rfl (E.PV.move rfl rfl) ?_
                          refine E.OW.nil ?_
                          refine E.then_nf ?_
                          refine ⟨_, [(33, _)], [1, 1], _, ?_, by repeat (first | exact E.cov_nil | refine ⟨rfl, ?_⟩), rfl, k + 1, rfl, rfl, rfl, by omega, Cf.next_all hI (Cf.teamOk_of hv (by omega) (by rw [hgt]; assumption))⟩
                          omega))
                  · simp only [E.b0, E.b1, E.b2, E.b3, E.b4, E.b5, E.b6, E.b7, E.b8, E.b9, E.b10, E.b11, E.b12, E.b13, E.b14, E.b15, E.b16, E.b17, E.b18, E.b19, E.b20, reduceCtorEq] at hc
                    all_goals (
                      refine E.CW.exit ?_
                      refine E.then_x ?_
                      refine E.then_x ?_
                      refine E.blk_eq ?_
                      refine E.then_n ?_
                      refine E.CW.seq ?_
                      refine E.CW.seq ?_
                      refine E.CW.drawx mixed [1] rfl ?_
                      all_goals (refine E.AW.first 0 rfl (by kernel_rfl) (by kernel_rfl) (by kernel_rfl) rfl rfl rfl (E.PV.fieldAddr fa28_0 rfl rfl) ?_)
                      all_goals (refine E.AW.first 1 rfl (by kernel_rfl) (by kernel_rfl) (by kernel_rfl) rfl rfl rfl (E.PV.fieldAddr fa24_2 rfl rfl) ?_)
                      all_goals (refine E.AW.first 2 rfl (by kernel_rfl) (by kernel_rfl) (by kernel_rfl) rfl rfl rfl (E.PV.load (i := 0) na22 rfl rfl rfl rfl) ?_)
                      all_goals (refine E.AW.first 3 rfl (by kernel_rfl) (by kernel_rfl) (by kernel_rfl) rfl rfl rfl (E.PV.loads (i := 0) is28 rfl rfl rfl rfl) ?_)
                      all_goals (refine E.AW.one 4 (by kernel_rfl) rfl ?_)
                      all_goals ((refine E.OW.call nm119 rfl rfl rfl rfl rfl rfl _ (fun w hw => Str_ok _ w) ?_; rintro _ _ ⟨BS, rfl, rfl⟩))
                      all_goals (first | (refine E.AW.nil [1] rfl ?_) | (refine E.AW.nil [2] rfl ?_) | (refine E.AW.nil [3] rfl ?_) | (refine E.AW.nil [4] rfl ?_) | (refine E.AW.nil [5] rfl ?_) | (refine E.AW.nil [6] rfl ?_) | (refine E.AW.nil [7] rfl ?_) | (refine E.AW.nil [0] rfl ?_) | (refine E.AW.nil [0] rfl ?_))
                      all_goals (refine E.AW.one 5 (by kernel_rfl) rfl ?_)
                      all_goals ((refine E.OW.call nm114 rfl rfl rfl rfl rfl rfl _ (fun w hw => CFU_ok _ _ g.l (fun x => !Cf.belongs g.q.ts x) 141 _ w nm141 (fun w2 hw2 x => by simpa using St1_ok g _ x w2 (hw2.rd (hw.rdblk (i := 0) rfl)) (hw2.rdC (hw.rdC hg)) hgf) ?_ ?_) ?_; (focus (omega)); (focus (refine hw.rd ?_; assumption)); rintro _ _ ⟨rfl, rfl⟩))
                      all_goals (first | (refine E.AW.nil [1] rfl ?_) | (refine E.AW.nil [2] rfl ?_) | (refine E.AW.nil [3] rfl ?_) | (refine E.AW.nil [4] rfl ?_) | (refine E.AW.nil [5] rfl ?_) | (refine E.AW.nil [6] rfl ?_) | (refine E.AW.nil [7] rfl ?_) | (refine E.AW.nil [0] rfl ?_) | (refine E.AW.nil [0] rfl ?_))
                      all_goals (refine E.AW.first 6 rfl (by kernel_rfl) (by kernel_rfl) (by kernel_rfl) rfl rfl rfl (E.PV.move rfl rfl) ?_)
                      all_goals (refine E.AW.split 53 rfl (fun hc => ?_) (fun hc => ?_) <;> (try simp only [E.b0, E.b1, E.b2, E.b3, E.b4, E.b5, E.b6, E.b7, E.b8, E.b9, E.b10, E.b11, E.b12, E.b13, E.b14, E.b15, E.b16, E.b17, E.b18, E.b19, E.b20, reduceCtorEq] at hc) <;> (try (exfalso; first | assumption | contradiction | omega)))
                      all_goals (first | (refine E.AW.first_off 7 rfl (by kernel_rfl) (by kernel_rfl) (by kernel_rfl) rfl rfl rfl ?_) | (refine E.AW.first 7 rfl (by kernel_rfl) (by kernel_rfl) (by kernel_rfl) rfl rfl rfl (E.PV.fieldAddr fa28_1 rfl rfl) ?_))
                      all_goals (first | (refine E.AW.first_off 8 rfl (by kernel_rfl) (by kernel_rfl) (by kernel_rfl) rfl rfl rfl ?_) | (refine E.AW.first 8 rfl (by kernel_rfl) (by kernel_rfl) (by kernel_rfl) rfl rfl rfl (E.PV.load (i := 0) na22 rfl rfl rfl rfl) ?_))
                      all_goals (first | (refine E.AW.first_off 9 rfl (by kernel_rfl) (by kernel_rfl) (by kernel_rfl) rfl rfl rfl ?_) | (refine E.AW.first 9 rfl (by kernel_rfl) (by kernel_rfl) (by kernel_rfl) rfl rfl rfl (E.PV.loads (i := 0) is28 rfl rfl rfl rfl) ?_))
                      all_goals (refine E.AW.one 10 (by kernel_rfl) rfl ?_)
                      all_goals (first | (refine E.OW.off rfl rfl rfl ?_) | ((refine E.OW.call nm119 rfl rfl rfl rfl rfl rfl _ (fun w hw => Str_ok _ w) ?_; rintro _ _ ⟨BS, rfl, rfl⟩)))
                      all_goals (first | (refine E.AW.nil [1] rfl ?_) | (refine E.AW.nil [2] rfl ?_) | (refine E.AW.nil [3] rfl ?_) | (refine E.AW.nil [4] rfl ?_) | (refine E.AW.nil [5] rfl ?_) | (refine E.AW.nil [6] rfl ?_) | (refine E.AW.nil [7] rfl ?_) | (refine E.AW.nil [0] rfl ?_) | (refine E.AW.nil [0] rfl ?_))
                      all_goals (refine E.AW.one 11 (by kernel_rfl) rfl ?_)
                      all_goals (first | (refine E.OW.off rfl rfl rfl ?_) | ((refine E.OW.call nm114 rfl rfl rfl rfl rfl rfl _ (fun w hw => CFU_ok _ _ g.s (fun x => !Cf.belongs g.q.ts x) 141 _ w nm141 (fun w2 hw2 x => by simpa using St1_ok g _ x w2 (hw2.rd (hw.rdblk (i := 0) rfl)) (hw2.rdC (hw.rdC hg)) hgf) ?_ ?_) ?_; (focus (omega)); (focus (refine hw.rd ?_; assumption)); rintro _ _ ⟨rfl, rfl⟩)))
                      all_goals (first | (refine E.AW.nil [1] rfl ?_) | (refine E.AW.nil [2] rfl ?_) | (refine E.AW.nil [3] rfl ?_) | (refine E.AW.nil [4] rfl ?_) | (refine E.AW.nil [5] rfl ?_) | (refine E.AW.nil [6] rfl ?_) | (refine E.AW.nil [7] rfl ?_) | (refine E.AW.nil [0] rfl ?_) | (refine E.AW.nil [0] rfl ?_))
                      all_goals (first | (refine E.AW.first 12 rfl (by kernel_rfl) (by kernel_rfl) (by kernel_rfl) rfl rfl rfl (E.PV.pick_t rfl rfl rfl) ?_) | (refine E.AW.first 12 rfl (by kernel_rfl) (by kernel_rfl) (by kernel_rfl) rfl rfl rfl (E.PV.pick_f rfl rfl rfl) ?_))
                      all_goals (refine E.AW.done (by kernel_rfl) ?_)
                      all_goals (
                        skip
                        refine E.then_n ?_
                        refine E.CW.cond rfl (fun hc => ?_) (fun hc => ?_)
                        · first | (simp only [E.b0, E.b1, E.b2, E.b3, E.b4, E.b5, E.b6, E.b7, E.b8, E.b9, E.b10, E.b11, E.b12, E.b13, E.b14, E.b15, E.b16, E.b17, E.b18, E.b19, E.b20, reduceCtorEq] at hc) | (skip)
                          all_goals (
                            refine E.CW.seq ?_
                            refine E.CW.region ?_
                            refine E.OW.pure rfl rfl rfl (E.PV.assign rfl rfl) ?_
                            refine E.OW.nil ?_
                            refine E.then_n ?_
                            refine E.CW.ret ?_
                            refine E.then_ret ?_
                            refine E.KR.one [] Try.results87 rfl rfl ?_
                            first | exact ⟨congrArg (Value.int .i64) (Cf.check_t (g := g.q) hv hs (Cf.teams_cells (Cf.any_bad (by assumption)))).symm, rfl⟩ | exact ⟨congrArg (Value.int .i64) (Cf.check_t (g := g.q) hv hs (Cf.teams_slices (Cf.any_bad (by assumption)))).symm, rfl⟩)
                        · first | ((cases hc; done)) | (skip)
                          all_goals (
                            refine E.CW.skip ?_
                            refine E.then_n ?_
                            refine E.CW.seq ?_
                            refine E.CW.seq ?_
                            have htok : Cf.teamsOk g.q = true := Cf.teams_good (g := g.q) (by rw [htn]; have := Cf.some_len (g := g.q) (by rw [htn]; exact hten); rwa [htn] at this) (by rw [htn]; omega) (fun j hj => hI j (by rw [htn] at hj; omega)) (Cf.any_good (by assumption)) (Cf.any_good (by assumption)) (Cf.some_one (g := g.q) (by rw [htn]; exact hten))
                            refine E.CW.region ?_
                            refine E.OW.pure rfl rfl rfl (E.PV.fieldAddr fa28_3 rfl rfl) ?_
                            refine E.OW.pure rfl rfl rfl (E.PV.load (i := 3) na26 rfl rfl rfl rfl) ?_
                            refine E.OW.pure rfl rfl rfl (E.PV.gtr rfl rfl rfl) ?_
                            refine E.OW.nil ?_
                            refine E.then_n ?_
                            refine E.CW.cond rfl (fun hc => ?_) (fun hc => ?_)
                            · simp only [E.b0, E.b1, E.b2, E.b3, E.b4, E.b5, E.b6, E.b7, E.b8, E.b9, E.b10, E.b11, E.b12, E.b13, E.b14, E.b15, E.b16, E.b17, E.b18, E.b19, E.b20, reduceCtorEq] at hc
                              all_goals (
                                refine E.CW.seq ?_
                                refine E.CW.region ?_
                                refine E.OW.pure rfl rfl rfl (E.PV.assign rfl rfl) ?_
                                refine E.OW.nil ?_
                                refine E.then_n ?_
                                refine E.CW.ret ?_
                                refine E.then_ret ?_
                                refine E.KR.one [] Try.results87 rfl rfl ?_
                                exact ⟨congrArg (Value.int .i64) (Cf.check_st (g := g.q) hv hs htok (by assumption)).symm, rfl⟩)
                            · simp only [E.b0, E.b1, E.b2, E.b3, E.b4, E.b5, E.b6, E.b7, E.b8, E.b9, E.b10, E.b11, E.b12, E.b13, E.b14, E.b15, E.b16, E.b17, E.b18, E.b19, E.b20, reduceCtorEq] at hc
                              all_goals (
                                refine E.CW.skip ?_
                                refine E.then_n ?_
                                refine E.CW.seq ?_
                                refine E.CW.region ?_
                                refine E.OW.pure rfl rfl rfl (E.PV.assign rfl rfl) ?_
                                refine E.OW.nil ?_
                                refine E.then_n ?_
                                refine E.CW.ret ?_
                                refine E.KR.one [] Try.results87 rfl rfl ?_
                                exact ⟨congrArg (Value.int .i64) (Cf.check_ok (g := g.q) hv hs htok (by assumption)).symm, rfl⟩))))))))

set_option maxRecDepth 100000 in
theorem Pn_ok (g : E.Cfg) (t : Int) (w0 : World) (hg : g.rd w0 (E.Old w0)) (hgf : g.q.fit) :
    Calls Try.prog 105 #[g.v, .int .i64 t] w0 (E.Post w0 (E.Old w0) fun v Hn => v = .tuple #[.bool (Cf.presence g.q t).1, .int .i64 (Cf.presence g.q t).2] ∧ Hn = []) := by
  obtain ⟨hX1, hX2, hX3, hX4⟩ := id hg
  have hgl := E.Cfg.fit_len hgf
  have htn := E.Cfg.ts_len g
  refine E.calls_of (vs := [g.v, .int .i64 t]) (H := []) Try.func105 Try.ntmps105 rfl rfl (E.HA.start w0) ?_
  refine E.CW.seq ?_
  refine E.CW.region ?_
  refine E.OW.box rfl rfl rfl rfl rfl rfl (fun B1 => ?_)
  refine E.OW.pure rfl rfl rfl (E.PV.assign rfl rfl) ?_
  refine E.OW.pure rfl rfl rfl (E.PV.assign rfl rfl) ?_
  refine E.OW.nil ?_
  refine E.then_n ?_
  refine E.CW.seq ?_
  refine E.CW.seq ?_
  refine E.CW.region ?_
  refine E.OW.pure rfl rfl rfl (E.PV.loads (i := 0) is28 rfl rfl rfl rfl) ?_
  (refine E.OW.call nm87 rfl rfl rfl rfl rfl rfl _ (fun w hw => Ck_ok _ w ?_ ?_) ?_; (focus (refine hw.rdC ?_; assumption)); (focus (assumption)); rintro _ _ ⟨rfl, rfl⟩)
  refine E.OW.pure rfl rfl rfl (E.PV.assign rfl rfl) ?_
  refine E.OW.nil ?_
  refine E.then_n ?_
  refine E.CW.seq ?_
  refine E.CW.region ?_
  refine E.OW.pure rfl rfl rfl (E.PV.move rfl rfl) ?_
  refine E.OW.pure rfl rfl rfl (E.PV.neq rfl rfl rfl) ?_
  refine E.OW.nil ?_
  refine E.then_n ?_
  refine E.CW.cond rfl (fun hc => ?_) (fun hc => ?_)
  · simp only [E.b0, E.b1, E.b2, E.b3, E.b4, E.b5, E.b6, E.b7, E.b8, E.b9, E.b10, E.b11, E.b12, E.b13, E.b14, E.b15, E.b16, E.b17, E.b18, E.b19, E.b20, reduceCtorEq] at hc
    all_goals (
      refine E.CW.seq ?_
      refine E.CW.region ?_
      refine E.OW.pure rfl rfl rfl (E.PV.move rfl rfl) ?_
      refine E.OW.pure rfl rfl rfl (E.PV.assign rfl rfl) ?_
      refine E.OW.pure rfl rfl rfl (E.PV.assign rfl rfl) ?_
      refine E.OW.nil ?_
      refine E.then_n ?_
      refine E.CW.ret ?_
      refine E.then_ret ?_
      refine E.KR.two [] Try.results105 rfl rfl rfl ?_
      exact ⟨by (have hcc : ¬ Cf.check g.q = 0 := by assumption); simp [Cf.presence, hcc], rfl⟩)
  · simp only [E.b0, E.b1, E.b2, E.b3, E.b4, E.b5, E.b6, E.b7, E.b8, E.b9, E.b10, E.b11, E.b12, E.b13, E.b14, E.b15, E.b16, E.b17, E.b18, E.b19, E.b20, reduceCtorEq] at hc
    all_goals (
      refine E.CW.skip ?_
      refine E.then_n ?_
      refine E.CW.seq ?_
      refine E.CW.seq ?_
      refine E.CW.region ?_
      refine E.OW.pure rfl rfl rfl (E.PV.move rfl rfl) ?_
      refine E.OW.pure rfl rfl rfl (E.PV.lss rfl rfl rfl) ?_
      refine E.OW.pure rfl rfl rfl (E.PV.move rfl rfl) ?_
      all_goals (refine E.OW.split 14 rfl (fun hc => ?_) (fun hc => ?_) <;> (try simp only [E.b0, E.b1, E.b2, E.b3, E.b4, E.b5, E.b6, E.b7, E.b8, E.b9, E.b10, E.b11, E.b12, E.b13, E.b14, E.b15, E.b16, E.b17, E.b18, E.b19, E.b20, reduceCtorEq] at hc) <;> (try (exfalso; first | assumption | contradiction | omega)))
      all_goals (first | (refine E.OW.off rfl rfl rfl ?_) | (refine E.OW.pure rfl rfl rfl (E.PV.move rfl rfl) ?_))
      all_goals (first | (refine E.OW.off rfl rfl rfl ?_) | (refine E.OW.pure rfl rfl rfl (E.PV.fieldAddr fa28_2 rfl rfl) ?_))
      all_goals (first | (refine E.OW.off rfl rfl rfl ?_) | (refine E.OW.pure rfl rfl rfl (E.PV.load (i := 0) na25 rfl rfl rfl rfl) ?_))
      all_goals (first | (refine E.OW.off rfl rfl rfl ?_) | (refine E.OW.pure rfl rfl rfl (E.PV.len Try.underlying25 rfl rfl) ?_))
      all_goals (first | (refine E.OW.off rfl rfl rfl ?_) | (refine E.OW.pure rfl rfl rfl (E.PV.geq rfl rfl rfl) ?_))
      all_goals (first | (refine E.OW.pure rfl rfl rfl (E.PV.pick_t rfl rfl rfl) ?_) | (refine E.OW.pure rfl rfl rfl (E.PV.pick_f rfl rfl rfl) ?_))
      all_goals (
        refine E.OW.nil ?_
        refine E.then_n ?_
        refine E.CW.cond rfl (fun hc => ?_) (fun hc => ?_)
        · simp only [E.b0, E.b1, E.b2, E.b3, E.b4, E.b5, E.b6, E.b7, E.b8, E.b9, E.b10, E.b11, E.b12, E.b13, E.b14, E.b15, E.b16, E.b17, E.b18, E.b19, E.b20, reduceCtorEq] at hc
          all_goals (
            refine E.CW.seq ?_
            refine E.CW.region ?_
            refine E.OW.pure rfl rfl rfl (E.PV.assign rfl rfl) ?_
            refine E.OW.pure rfl rfl rfl (E.PV.assign rfl rfl) ?_
            refine E.OW.nil ?_
            refine E.then_n ?_
            refine E.CW.ret ?_
            refine E.then_ret ?_
            refine E.KR.two [] Try.results105 rfl rfl rfl ?_
            exact ⟨by (have hcc : Cf.check g.q = 0 := by assumption); simp only [Cf.presence, hcc, htn, if_true]; rw [if_pos (by omega)], rfl⟩)
        · first | ((cases hc; done)) | (simp only [E.b0, E.b1, E.b2, E.b3, E.b4, E.b5, E.b6, E.b7, E.b8, E.b9, E.b10, E.b11, E.b12, E.b13, E.b14, E.b15, E.b16, E.b17, E.b18, E.b19, E.b20, reduceCtorEq] at hc)
          all_goals (
            refine E.CW.skip ?_
            refine E.then_n ?_
            refine E.CW.seq ?_
            refine E.CW.region ?_
            refine E.OW.pure rfl rfl rfl (E.PV.loads (i := 0) is28 rfl rfl rfl rfl) ?_
            refine E.OW.pure rfl rfl rfl (E.PV.move rfl rfl) ?_
            (refine E.OW.call nm95 rfl rfl rfl rfl rfl rfl _ (fun w hw => Pr_ok _ _ w ?_ ?_) ?_; (focus (refine hw.rdC ?_; assumption)); (focus (assumption)); rintro _ _ ⟨rfl, rfl⟩)
            refine E.OW.pure rfl rfl rfl (E.PV.assign rfl rfl) ?_
            refine E.OW.pure rfl rfl rfl (E.PV.assign rfl rfl) ?_
            refine E.OW.nil ?_
            refine E.then_n ?_
            refine E.CW.ret ?_
            refine E.KR.two [] Try.results105 rfl rfl rfl ?_
            exact ⟨by (have hcc : Cf.check g.q = 0 := by assumption); simp only [Cf.presence, hcc, htn, if_true]; rw [if_neg (by omega)], rfl⟩)))

set_option maxRecDepth 100000 in
theorem Tt_ok (g : E.Cfg) (w0 : World) (hg : g.rd w0 (E.Old w0)) (hgf : g.q.fit) :
    Calls Try.prog 55 #[g.v] w0 (E.Post w0 (E.Old w0) fun v Hn => ∃ A2 c2, v = .tuple #[.slice A2 ((Cf.tenantsR g.q).1).length c2, .int .i64 (Cf.tenantsR g.q).2] ∧ Hn = [E.HP.row 3 1 A2 ((Cf.tenantsR g.q).1).length c2 (E.ints ((Cf.tenantsR g.q).1))]) := by
  obtain ⟨hX1, hX2, hX3, hX4⟩ := id hg
  have hgl := E.Cfg.fit_len hgf
  have htn := E.Cfg.ts_len g
  refine E.calls_of (vs := [g.v]) (H := []) Try.func55 Try.ntmps55 rfl rfl (E.HA.start w0) ?_
  refine E.CW.seq ?_
  refine E.CW.region ?_
  refine E.OW.box rfl rfl rfl rfl rfl rfl (fun B1 => ?_)
  refine E.OW.pure rfl rfl rfl (E.PV.assign rfl rfl) ?_
  refine E.OW.pure rfl rfl rfl (E.PV.assign rfl rfl) ?_
  refine E.OW.nil ?_
  refine E.then_n ?_
  refine E.CW.seq ?_
  refine E.CW.seq ?_
  refine E.CW.region ?_
  refine E.OW.pure rfl rfl rfl (E.PV.loads (i := 0) is28 rfl rfl rfl rfl) ?_
  (refine E.OW.call nm87 rfl rfl rfl rfl rfl rfl _ (fun w hw => Ck_ok _ w ?_ ?_) ?_; (focus (refine hw.rdC ?_; assumption)); (focus (assumption)); rintro _ _ ⟨rfl, rfl⟩)
  refine E.OW.pure rfl rfl rfl (E.PV.assign rfl rfl) ?_
  refine E.OW.nil ?_
  refine E.then_n ?_
  refine E.CW.seq ?_
  refine E.CW.region ?_
  refine E.OW.pure rfl rfl rfl (E.PV.move rfl rfl) ?_
  refine E.OW.pure rfl rfl rfl (E.PV.neq rfl rfl rfl) ?_
  refine E.OW.nil ?_
  refine E.then_n ?_
  refine E.CW.cond rfl (fun hc => ?_) (fun hc => ?_)
  · simp only [E.b0, E.b1, E.b2, E.b3, E.b4, E.b5, E.b6, E.b7, E.b8, E.b9, E.b10, E.b11, E.b12, E.b13, E.b14, E.b15, E.b16, E.b17, E.b18, E.b19, E.b20, reduceCtorEq] at hc
    all_goals (
      refine E.CW.seq ?_
      refine E.CW.nilrow 3 1 ?_
      refine E.CW.region ?_
      refine E.OW.pure rfl rfl rfl (E.PV.move rfl rfl) ?_
      refine E.OW.pure rfl rfl rfl (E.PV.assign rfl rfl) ?_
      refine E.OW.pure rfl rfl rfl (E.PV.assign rfl rfl) ?_
      refine E.OW.nil ?_
      refine E.then_n ?_
      refine E.CW.ret ?_
      refine E.then_ret ?_
      refine E.KR.two [0] Try.results55 rfl rfl rfl ?_
      rw [show Cf.tenantsR g.q = ([], Cf.check g.q) from if_neg (by assumption)]
      exact ⟨none, 0, rfl, rfl⟩)
  · simp only [E.b0, E.b1, E.b2, E.b3, E.b4, E.b5, E.b6, E.b7, E.b8, E.b9, E.b10, E.b11, E.b12, E.b13, E.b14, E.b15, E.b16, E.b17, E.b18, E.b19, E.b20, reduceCtorEq] at hc
    all_goals (
      refine E.CW.skip ?_
      refine E.then_n ?_
      refine E.CW.seq ?_
      refine E.CW.region ?_
      refine E.OW.pure rfl rfl rfl (E.PV.loads (i := 0) is28 rfl rfl rfl rfl) ?_
      (refine E.OW.call nm98 rfl rfl rfl rfl rfl rfl _ (fun w hw => Tn_ok _ w ?_ ?_) ?_; (focus (refine hw.rdC ?_; assumption)); (focus (assumption)); rintro _ _ ⟨AT, cT, rfl, rfl⟩)
      refine E.OW.pure rfl rfl rfl (E.PV.assign rfl rfl) ?_
      refine E.OW.pure rfl rfl rfl (E.PV.assign rfl rfl) ?_
      refine E.OW.nil ?_
      refine E.then_n ?_
      refine E.CW.ret ?_
      refine E.KR.two [0] Try.results55 rfl rfl rfl ?_
      rw [show Cf.tenantsR g.q = (Cf.tenants g.q.ts g.ts.length, 0) from (if_pos (by assumption)).trans (by rw [htn])]
      exact ⟨_, _, rfl, rfl⟩)
end Go.Proofs.Ytflkbabhbnmajaa

/- Slices of teams that the function makes and writes; teams and configs that hold nothing; a slice compared with nil. No program in sight. -/
namespace Go.Proofs.Ytflkbabhbnmajaa
namespace E
open Go Go.RowKit
set_option linter.unusedSimpArgs false
set_option linter.unusedVariables false
section
variable {P : Program} {n : Fr} {w0 : World} {F : Nat → Prop} {K : Kt} {l : Env} {H : List HP} {o : Oper}

theorem PV.slnil {t t' e : TypeId} {x y : Operand} {A : Option Addr} {m c m' c' : Nat} (hT : P.underlying t = some (.slice e)) (ho : o.op = .binOp .eql t x y t') (hx : ev l x = some (.slice A m c)) (hy : ev l y = some (.slice none m' c')) : PV P n w0 F l H o (.bool A.isNone) :=
  PV.bin ho hx hy (by simp [eqGuard]) fun w => Lib.run_eql_slice_nil w t e A m c m' c' hT

theorem tms_set : ∀ {ts : List Tm} {j : Nat} {m : Tm}, j < ts.length → tms (ts.set j m) = (tms ts).take (j * 8) ++ m.cells ++ (tms ts).drop (j * 8 + 8) := by
  intro ts
  induction ts with
  | nil => intro j m h; simp at h
  | cons q r ih =>
    intro j m h
    have h8 : q.cells.length = 8 := rfl
    cases j with
    | zero =>
      simp only [List.set_cons_zero, tms, Nat.zero_mul, List.take_zero, List.nil_append, Nat.zero_add]
      rw [List.drop_append, h8, Nat.sub_self, List.drop_of_length_le (by omega)]
      simp
    | succ j =>
      have e1 : (q.cells ++ tms r).take ((j + 1) * 8) = q.cells ++ (tms r).take (j * 8) := by
        rw [List.take_append, h8, List.take_of_length_le (by omega), show (j + 1) * 8 - 8 = j * 8 by omega]
      have e2 : (q.cells ++ tms r).drop ((j + 1) * 8 + 8) = (tms r).drop (j * 8 + 8) := by
        rw [List.drop_append, h8, List.drop_of_length_le (by omega), show (j + 1) * 8 + 8 - 8 = j * 8 + 8 by omega, List.nil_append]
      simp only [List.set_cons_succ, tms]
      rw [e1, e2, ih (by simpa using h)]
      simp only [List.append_assoc]
theorem take_splice {α : Type} (xs ys : List α) (a n : Nat) (h1 : a + ys.length ≤ n) (h2 : n ≤ xs.length) : (xs.take a ++ ys ++ xs.drop (a + ys.length)).take n = (xs.take n).take a ++ ys ++ (xs.take n).drop (a + ys.length) := by
  have hl : (xs.take a ++ ys).length = a + ys.length := by rw [List.length_append, List.length_take, Nat.min_eq_left (by omega)]
  rw [List.take_append, hl, List.take_of_length_le (by omega : (xs.take a ++ ys).length ≤ n), List.take_take, Nat.min_eq_left (by omega), List.drop_take]
theorem erase_perm {α : Type} : ∀ {l : List α} {j : Nat} (h : j < l.length), l.Perm (l[j] :: l.eraseIdx j) := by
  intro l
  induction l with
  | nil => intro j h; simp at h
  | cons a r ih =>
    intro j h
    cases j with
    | zero => exact List.Perm.refl _
    | succ j =>
      simp only [List.getElem_cons_succ, List.eraseIdx_cons_succ]
      exact ((ih (by simpa using h)).cons a).trans (List.Perm.swap _ _ _)

theorem OW.make_tms {ops : Array Oper} {rest : List Oper} {d t Et bytes : Nat} {x y : Operand} {kx ky : IntKind} {px : Int} (m : Nat) (hT : P.underlying t = some (.slice Et)) (hI : In P Et Tm.z.v 8 bytes)
    (ho : o.op = .makeSlice t x y) (hg : gd ops l o.guard = some true) (hd : o.dst = some d) (hn : Nat.blt d n.sz = true) (hx : ev l x = some (.int kx px)) (hy : ev l y = some (.int ky px)) (hm : px = (m : Int))
    (hmax : m ≤ maxLen) (hb : bytes * m ≤ 281474976710656)
    (k : ∀ A, OW P n w0 F ops K rest ((d, .slice A m m) :: l) (HP.row Et 8 A m m (tms (List.replicate m Tm.z)) :: H)) : OW P n w0 F ops K (o :: rest) l H :=
  OW.step hg hd hn (fun v H' => ∃ A, v = .slice A m m ∧ H' = HP.row Et 8 A m m (tms (List.replicate m Tm.z)) :: H)
    (fun a w ha hw => by
      obtain ⟨inf, hinf, hz0, hz1, hz2⟩ := hI.parts
      subst hm hz2
      have hb' : (inf.bytes : Int) * (m : Int) ≤ 281474976710656 := by
        have h : ((inf.bytes * m : Nat) : Int) ≤ 281474976710656 := by omega
        rwa [Int.natCast_mul] at h
      have hmax' : (m : Int) ≤ 9223372036854775807 := by unfold maxLen at hmax; omega
      have hr := run_make (P := P) w t Et inf Tm.z.v hT hinf hz0 kx ky m m (by omega) (by omega) hb' hmax'
      have hcs : (madeCells Tm.z.v.cells (m * inf.size)) = (tms (List.replicate m Tm.z)).toArray := by
        rw [hz1]
        apply Array.ext
        · simp [madeCells]
        · intro i h1 h2
          have hi : i < m * 8 := by simpa [madeCells] using h1
          have hj : i % 8 < Tm.z.cells.length := by simp [Tm.cells]; omega
          have h3 := tms_get (ts := List.replicate m Tm.z) (k := i / 8) (j := i % 8) (v := Tm.z.cells[i % 8]) (by simp; omega) (by simp [List.getD, show i / 8 < m by omega])
          rw [show i / 8 * 8 + i % 8 = i by omega] at h3
          have h4 : (tms (List.replicate m Tm.z)).toArray[i]'h2 = Tm.z.cells[i % 8] := by
            have : (tms (List.replicate m Tm.z))[i]? = some ((tms (List.replicate m Tm.z)).toArray[i]'h2) := by simp
            rw [h3] at this
            injection this with this
            exact this.symm
          rw [h4]
          have h8 : Tm.z.v.cells = Tm.z.cells.toArray := rfl
          have h9 : Tm.z.cells.length = 8 := rfl
          simp only [madeCells, h8, Array.getElem_map, Array.getElem_range, List.size_toArray, h9]
          rw [getElem!_pos _ _ (by simp only [List.size_toArray, h9]; omega)]
          rfl
      simp only [Int.toNat_natCast, hcs] at hr
      exact ⟨_, _, _, by simp [execOp, ho, ha.ev hx, ha.ev hy, hr], ⟨_, rfl, rfl⟩, hw.new _ (Chunks.new_row (by simp) hmax)⟩)
    (fun v H' ⟨A, hv, hH⟩ => by subst hv hH; exact k A)

/-- a team stored into a slice of teams of the function's own. -/
theorem OW.store_tm {ops : Array Oper} {rest : List Oper} {t : TypeId} {x y : Operand} {Et i m c j : Nat} {A : Option Addr} {q : Tm} {ts : List Tm} {H' : List HP} (hsz : ∀ w, (sizeOf t).run P w = .ok 8 w) (ho : o.op = .store t x y)
    (hg : gd ops l o.guard = some true) (hd : o.dst = none) (hx : ev l x = some (eptr A (j * 8))) (hy : ev l y = some q.v)
    (hi : sel H i = some (HP.row Et 8 A m c (tms ts), H')) (hj : j < m) (hm : ts.length = m) (k : OW P n w0 F ops K rest l (HP.row Et 8 A m c (tms (ts.set j q)) :: H')) : OW P n w0 F ops K (o :: rest) l H :=
  OW.act hg hd (fun a w ha hw => by
    have hown := hw.row hi
    rcases hown.2 with ⟨hv, hm0⟩ | ⟨g, cap, cur, hv, _, hgg, hnc, hcap, hcs, htk⟩
    · omega
    · injection hv with hA _ hcc
      subst hA hcc
      have hx' : ev l x = some (.pointer (some ⟨g, j * 8, .none⟩)) := by
        rw [hx]
        unfold eptr
        simp only [Option.map_some, Option.some.injEq, Value.pointer.injEq]
        unfold Addr.add
        split <;> simp_all
      have h8 : q.cells.length = 8 := rfl
      have hst := run_storeCells_at P g (j * 8) Et q.cells 0 cur w hgg (by rw [h8]; omega) (fun u hu => q.one u hu)
      refine ⟨w.setRow g (cur.toList.take (j * 8) ++ q.cells ++ cur.toList.drop (j * 8 + 8)).toArray, ?_, ?_⟩
      · have hc : q.v.cells = q.cells.toArray := rfl
        simp [execOp, ho, ha.ev hx', ha.ev hy, Instr.storeAt, Instr.sureAddr, storeVar, hc, h8, hsz w]
        simp [h8] at hst
        rw [hst]
        rfl
      · refine (hw.sel hi).regrow (A := some ⟨g, 0, .none⟩) (A' := some ⟨g, 0, .none⟩) (m := m) (m' := m) (c := c) (c' := c) (xs := tms ts) ?_ ?_ (.inl rfl)
        · refine ⟨rfl, rfl, rfl, by simp [World.setRow], fun k hk hne => ?_⟩
          simp only [World.setRow, Array.getElem?_modify]
          rw [if_neg (fun e => hne (by simp [Value.ownBlock, e]))]
        · refine ⟨by simp [hm], .inr ⟨g, c, _, rfl, Nat.zero_le _, setRow_heap w g cur _ Et _ hgg, hnc, hcap, ?_, ?_⟩⟩
          · simp only [List.size_toArray, List.length_append, List.length_take, List.length_drop, Array.length_toList, h8]
            omega
          · have hs := take_splice cur.toList q.cells (j * 8) (m * 8) (by rw [h8]; omega) (by simp only [Array.length_toList]; rw [hcs]; omega)
            rw [h8] at hs
            rw [tms_set (by omega), ← htk, List.toList_toArray]
            exact hs) k

/-! ### Nothing -/
theorem Chunks.tms_z {w : World} {U : Nat → Prop} {r : List HP} (k : Nat) (h : Chunks w U r) : Chunks w U (HP.tms (List.replicate k Tm.z) :: r) := by
  refine ⟨fun _ => False, ?_, fun _ hk => hk.elim, h.congr fun q => by simp⟩
  show bagS w (fun _ => False) ((List.replicate k Tm.z).map HP.tm)
  have hrow : (HP.row 3 1 .none 0 0 []).sem (fun _ => False) w := ⟨fun k => by simp [Value.ownBlock], World.ownsRow_nil w 0 3 1⟩
  have hz : (HP.tm Tm.z).sem (fun _ => False) w :=
    ⟨fun _ => False, fun _ => False, fun _ => by simp, fun _ h => h.elim, hrow, fun _ => False, fun _ => False, fun _ => by simp, fun _ h => h.elim, hrow, fun _ => False, fun _ => False, fun _ => by simp, fun _ h => h.elim, hrow, fun _ h => h⟩
  induction k with
  | zero => exact fun _ h => h
  | succ k ih => exact ⟨fun _ => False, fun _ => False, fun _ => by simp, fun _ h => h.elim, hz, ih⟩
theorem CW.tmsz {c : Code} (k : Nat) (h : CW P n w0 F c K l (HP.tms (List.replicate k Tm.z) :: H)) : CW P n w0 F c K l H := CW.conv (fun w U hc => Chunks.tms_z k hc) h
/-- the j-th team becomes another one. -/
theorem CW.tmsput {c : Code} {H1 : List HP} {m : Tm} {ts : List Tm} (i k j : Nat) {H2 : List HP} (hi : sel H i = some (HP.tm m, H1)) (hk : sel H1 k = some (HP.tms ts, H2)) (hj : j < ts.length) (h : CW P n w0 F c K l (HP.tms (ts.set j m) :: H2)) : CW P n w0 F c K l H := fun a w ha hw => by
  have h1 := hw.perm ((sel_perm hi).trans ((sel_perm hk).cons _))
  refine h a w ha { h1 with chunks := ?_ }
  obtain ⟨S, g1, b1, T, g2, b2, g3⟩ := h1.chunks
  have hp : (ts.map HP.tm).Perm (HP.tm ts[j] :: (ts.eraseIdx j).map HP.tm) := by
    rw [← List.map_cons]; exact (erase_perm hj).map _
  have hq : (HP.tm m :: (ts.eraseIdx j).map HP.tm).Perm ((ts.set j m).map HP.tm) := by
    rw [← List.map_cons]
    refine List.Perm.map _ ?_
    have := (erase_perm (l := ts.set j m) (j := j) (by simpa using hj)).symm
    rwa [List.getElem_set_self, List.eraseIdx_set_eq] at this
  obtain ⟨T1, T2, e1, e2, e3, e4⟩ := bagS_perm hp g2
  refine ⟨fun q => S q ∨ T2 q, bagS_perm hq ⟨S, T2, fun _ => Iff.rfl, fun q hq ht => (b2 q ((e1 q).2 (.inr ht))).2 (.inr hq), g1, e4⟩, fun q hq => ?_, g3.mono fun q hq => ?_⟩
  · rcases hq with hq | hq
    · exact b1 q hq
    · have := b2 q ((e1 q).2 (.inr hq))
      exact ⟨this.1, fun hu => this.2 (.inl hu)⟩
  · rcases hq with hq | hq | hq
    · exact .inl (.inl hq)
    · exact .inl (.inr hq)
    · exact .inr ((e1 q).2 (.inr hq))
def Cfg.z : Cfg := ⟨0, 0, [], [], [], 0, .none, 0, .none, 0, .none, 0⟩
theorem Chunks.cfg_z {w : World} {U : Nat → Prop} {r : List HP} (h : Chunks w U r) : Chunks w U (HP.cfg Cfg.z :: r) := by
  refine ⟨fun _ => False, ?_, fun _ hk => hk.elim, h.congr fun q => by simp⟩
  have hrow : ∀ e s, (HP.row e s .none 0 0 []).sem (fun _ => False) w := fun e s => ⟨fun k => by simp [Value.ownBlock], World.ownsRow_nil w 0 e s⟩
  exact ⟨fun _ => False, fun _ => False, fun _ => by simp, fun _ h => h.elim, hrow 5 1, fun _ => False, fun _ => False, fun _ => by simp, fun _ h => h.elim, hrow 5 1, fun _ => False, fun _ => False, fun _ => by simp, fun _ h => h.elim, hrow 79 8,
    fun _ => False, fun _ => False, fun _ => by simp, fun _ h => h.elim, (fun _ h => h), fun _ h => h⟩
theorem CW.cfgz {c : Code} (h : CW P n w0 F c K l (HP.cfg Cfg.z :: H)) : CW P n w0 F c K l H := CW.conv (fun w U hc => Chunks.cfg_z hc) h
end
end E
namespace Cf
/-! ### A list whose entries are turned one after the other -/
def upd (f : UInt8 → UInt8) (l : List UInt8) (k : Nat) : List UInt8 := (l.take k).map f ++ l.drop k
@[simp] theorem upd_len (f : UInt8 → UInt8) (l : List UInt8) (k : Nat) : (upd f l k).length = l.length := by simp [upd]; omega
theorem upd_zero (f : UInt8 → UInt8) (l : List UInt8) : upd f l 0 = l := by simp [upd]
theorem upd_end (f : UInt8 → UInt8) (l : List UInt8) : upd f l l.length = l.map f := by simp [upd]
theorem upd_get {f : UInt8 → UInt8} {l : List UInt8} {k : Nat} (h : k < l.length) : (upd f l k).getD k 0 = l.getD k 0 := by
  unfold upd
  rw [List.getD_eq_getElem?_getD, List.getElem?_append_right (by simp; omega), List.length_map, List.length_take, Nat.min_eq_left (by omega), Nat.sub_self, List.getElem?_drop, Nat.add_zero, ← List.getD_eq_getElem?_getD]
theorem upd_step {f : UInt8 → UInt8} {l : List UInt8} {k : Nat} (h : k < l.length) {x : UInt8} (e : f (l.getD k 0) = x) : (upd f l k).set k x = upd f l (k + 1) := by
  subst e
  unfold upd
  rw [List.take_add_one, List.getElem?_eq_getElem h, Option.toList_some, List.map_append, List.set_append_right _ _ (by simp; omega), List.length_map, List.length_take, Nat.min_eq_left (by omega), Nat.sub_self, List.drop_eq_getElem_cons h, List.set_cons_zero]
  simp only [List.getD, List.getElem?_eq_getElem h, Option.getD_some, List.map_cons, List.map_nil, List.append_assoc, List.cons_append, List.nil_append]
theorem upd_same {f : UInt8 → UInt8} {l : List UInt8} {k : Nat} (h : k < l.length) (e : f (l.getD k 0) = l.getD k 0) : upd f l k = upd f l (k + 1) := by
  rw [← upd_step h rfl, e]
  apply List.ext_getElem?
  intro i
  rw [List.getElem?_set]
  split
  · rename_i hi
    subst hi
    have := upd_get (f := f) h
    rw [← this, List.getD_eq_getElem?_getD, List.getElem?_eq_getElem (by simpa using h)]
    simp [h]
  · rfl
def oc (t : Int) (v : UInt8) : UInt8 := if (v.toNat : Int) = t + 1 ∨ (v.toNat : Int) = 255 then v else 0
def os (t : Int) (v : UInt8) : UInt8 := if (v.toNat : Int) = t + 1 then v else 0
def oneTeam (ts : List T) (t : Int) (k : Nat) : List T := (List.range k).map fun (i : Nat) => if (i : Int) = t then ts.getD i T.z else T.z
def only (g : C) (t : Int) : C := ⟨g.a, g.b, g.l.map (oc t), g.s.map (os t), oneTeam g.ts t g.ts.length, g.st⟩
def zero : C := ⟨0, 0, [], [], [], 0⟩
theorem oneTeam_set {ts : List T} {t : Int} (h : 0 ≤ t ∧ t < ts.length) : (List.replicate ts.length T.z).set t.toNat (ts.getD t.toNat T.z) = oneTeam ts t ts.length := by
  apply List.ext_getElem (by simp [oneTeam])
  intro i h1 h2
  simp only [oneTeam, List.getElem_map, List.getElem_range, List.getElem_set, List.getElem_replicate]
  by_cases hi : t.toNat = i
  · rw [if_pos hi, if_pos (by omega), hi]
  · rw [if_neg hi, if_neg (by omega)]
end Cf
end Go.Proofs.Ytflkbabhbnmajaa

/- The projection of a config, plainly. -/
namespace Go.Proofs.Ytflkbabhbnmajaa
set_option linter.unusedVariables false
namespace Cf
def onlyR (g : C) (t : Int) : C × Int := if check g = 0 then (if present g.ts t then (only g t, 0) else (zero, 2)) else (zero, check g)
theorem present_b {ts : List T} {t : Int} (h : present ts t = true) : 0 ≤ t ∧ t < ts.length := by
  unfold present at h
  simp only [Bool.and_eq_true, decide_eq_true_eq] at h
  exact h.1
theorem check_zero {g : C} (h : check g = 0) : Fl.validF g.a g.b g.l = true ∧ Fl.validS g.s = true ∧ teamsOk g = true ∧ g.st ≤ 4611686018427387904 := by
  unfold check at h
  split at h
  · rename_i h1
    split at h
    · rename_i h2
      split at h
      · rename_i h3
        split at h
        · rename_i h4; exact ⟨h1, h2, h3, h4⟩
        · cases h
      · cases h
    · cases h
  · cases h
theorem teams_len {g : C} (h : teamsOk g = true) : 1 ≤ g.ts.length ∧ g.ts.length ≤ 3 := by
  unfold teamsOk at h
  simp only [Bool.and_eq_true, decide_eq_true_eq] at h
  exact ⟨h.1.1.1.1.1, h.1.1.1.1.2⟩
theorem oc_no {t : Int} {v : UInt8} (h1 : ¬ (v.toNat : Int) = t + 1) (h2 : ¬ (v.toNat : Int) = 255) : oc t v = 0 := if_neg (by omega)
theorem oc_yes {t : Int} {v : UInt8} (h : (v.toNat : Int) = t + 1 ∨ (v.toNat : Int) = 255) : oc t v = v := if_pos h
theorem os_no {t : Int} {v : UInt8} (h1 : ¬ (v.toNat : Int) = t + 1) : os t v = 0 := if_neg h1
theorem os_yes {t : Int} {v : UInt8} (h : (v.toNat : Int) = t + 1) : os t v = v := if_pos h
theorem set_q {g : E.Cfg} {t : Int} {m : E.Tm} (h : 0 ≤ t ∧ t < g.ts.length) (hm : m.q = (g.ts.getD t.toNat E.Tm.z).q) : ((List.replicate g.ts.length E.Tm.z).set t.toNat m).map (·.q) = oneTeam g.q.ts t g.q.ts.length := by
  have e := oneTeam_set (ts := g.q.ts) (t := t) (by rw [E.Cfg.ts_len]; exact h)
  rw [← e, List.map_set, List.map_replicate, hm, E.Cfg.ts_getD, E.Cfg.ts_len]
  rfl
theorem zero_fit : zero.fit := ⟨by simp [zero, i64], by simp [zero, i64], by simp [zero], by simp [zero], by simp [zero], (fun t ht => by cases ht), by simp [zero]⟩
theorem only_fit {g : C} {t : Int} (h : g.fit) : (only g t).fit := ⟨h.a, h.b, by simp [only]; exact h.l, by simp [only]; exact h.s, by simp [only, oneTeam]; exact h.t, fun q hq => by
  simp only [only, oneTeam, List.mem_map, List.mem_range] at hq
  obtain ⟨i, hi, rfl⟩ := hq
  split
  · exact h.m _ (by rw [List.getD_eq_getElem?_getD, List.getElem?_eq_getElem hi, Option.getD_some]; exact List.getElem_mem hi)
  · exact T.z_fit, h.st⟩
theorem onlyR_fit {g : C} {t : Int} (h : g.fit) : (onlyR g t).1.fit := by
  unfold onlyR
  split
  · split
    · exact only_fit h
    · exact zero_fit
  · exact zero_fit
end Cf
namespace E
def Tm.sz (m : Tm) : Prop := m.q.h.length ≤ 140737488351232 ∧ m.q.p.length ≤ 140737488351232 ∧ m.q.d.length ≤ 140737488351232
section
variable {P : Program} {n : Fr} {w0 : World} {F : Nat → Prop} {K : Kt} {l : Env} {H : List HP}
theorem CW.heq {c : Code} {H' : List HP} (h : H = H') (k : CW P n w0 F c K l H') : CW P n w0 F c K l H := by rw [h]; exact k
theorem CW.chunk {c : Code} (i : Nat) {p : HP} (p' : HP) {H' : List HP} (hi : sel H i = some (p, H')) (he : p = p') (k : CW P n w0 F c K l (p' :: H')) : CW P n w0 F c K l H := fun a w ha hw => k a w ha (he ▸ hw.sel hi)
end
end E
end Go.Proofs.Ytflkbabhbnmajaa
