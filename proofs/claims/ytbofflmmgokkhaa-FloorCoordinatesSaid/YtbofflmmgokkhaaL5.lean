/- Walks (printed by gen.py). -/
import Derived.Test.YtbofflmmgokkhaaG6
import Derived.Test.YtbofflmmgokkhaaFlO
namespace Go.Proofs.Ytbofflmmgokkhaa
open Go Go.RowKit
set_option linter.unusedSimpArgs false
set_option linter.unusedVariables false

set_option maxRecDepth 100000 in
theorem FloorCoordinates_ok (a b p x y : Int) (w0 : World) :
    Calls Try.prog 7 #[.int .i64 a, .int .i64 b, .int .i64 p, .int .i64 x, .int .i64 y] w0 (E.Post w0 (E.Old w0) fun v Hn => v = .bool true ∧ Hn = []) := by
  refine E.calls_of (vs := [.int .i64 a, .int .i64 b, .int .i64 p, .int .i64 x, .int .i64 y]) (H := []) Try.func7 Try.ntmps7 rfl rfl (E.HA.start w0) ?_
  refine E.CW.seq ?_
  refine E.CW.region ?_
  refine E.OW.pure rfl rfl rfl (E.PV.assign rfl rfl) ?_
  refine E.OW.nil ?_
  refine E.then_n ?_
  refine E.CW.seq ?_
  refine E.CW.region ?_
  (refine E.OW.call nm54 rfl rfl rfl rfl rfl rfl _ (fun w hw => alive_ok w) ?_; rintro _ _ ⟨rfl, rfl⟩)
  refine E.OW.pure rfl rfl rfl (E.PV.assign rfl rfl) ?_
  refine E.OW.nil ?_
  refine E.then_n ?_
  refine E.CW.seq ?_
  refine E.CW.region ?_
  refine E.OW.pure rfl rfl rfl (E.PV.move rfl rfl) ?_
  refine E.OW.pure rfl rfl rfl (E.PV.move rfl rfl) ?_
  (refine E.OW.call nm27 rfl rfl rfl rfl rfl rfl _ (fun w hw => Cells_ok _ _ w) ?_; rintro _ _ ⟨rfl, rfl⟩)
  refine E.OW.pure rfl rfl rfl (E.PV.move rfl rfl) ?_
  refine E.OW.pure rfl rfl rfl (E.PV.extract rfl rfl rfl) ?_
  refine E.OW.pure rfl rfl rfl (E.PV.extract rfl rfl rfl) ?_
  refine E.OW.pure rfl rfl rfl (E.PV.assign rfl rfl) ?_
  refine E.OW.pure rfl rfl rfl (E.PV.assign rfl rfl) ?_
  refine E.OW.nil ?_
  refine E.then_n ?_
  refine E.CW.seq ?_
  refine E.CW.region ?_
  refine E.OW.pure rfl rfl rfl (E.PV.move rfl rfl) ?_
  refine E.OW.pure rfl rfl rfl (E.PV.move rfl rfl) ?_
  refine E.OW.pure rfl rfl rfl (E.PV.move rfl rfl) ?_
  (refine E.OW.call nm29 rfl rfl rfl rfl rfl rfl _ (fun w hw => Locate_ok _ _ _ w) ?_; rintro _ _ ⟨rfl, rfl⟩)
  refine E.OW.pure rfl rfl rfl (E.PV.move rfl rfl) ?_
  refine E.OW.pure rfl rfl rfl (E.PV.extract rfl rfl rfl) ?_
  refine E.OW.pure rfl rfl rfl (E.PV.extract rfl rfl rfl) ?_
  refine E.OW.pure rfl rfl rfl (E.PV.extract rfl rfl rfl) ?_
  refine E.OW.pure rfl rfl rfl (E.PV.assign rfl rfl) ?_
  refine E.OW.pure rfl rfl rfl (E.PV.assign rfl rfl) ?_
  refine E.OW.pure rfl rfl rfl (E.PV.assign rfl rfl) ?_
  refine E.OW.nil ?_
  refine E.then_n ?_
  refine E.CW.seq ?_
  refine E.CW.region ?_
  refine E.OW.pure rfl rfl rfl (E.PV.move rfl rfl) ?_
  refine E.OW.pure rfl rfl rfl (E.PV.move rfl rfl) ?_
  refine E.OW.pure rfl rfl rfl (E.PV.move rfl rfl) ?_
  refine E.OW.pure rfl rfl rfl (E.PV.move rfl rfl) ?_
  (refine E.OW.call nm31 rfl rfl rfl rfl rfl rfl _ (fun w hw => Place_ok _ _ _ _ w) ?_; rintro _ _ ⟨rfl, rfl⟩)
  refine E.OW.pure rfl rfl rfl (E.PV.move rfl rfl) ?_
  refine E.OW.pure rfl rfl rfl (E.PV.extract rfl rfl rfl) ?_
  refine E.OW.pure rfl rfl rfl (E.PV.extract rfl rfl rfl) ?_
  refine E.OW.pure rfl rfl rfl (E.PV.assign rfl rfl) ?_
  refine E.OW.pure rfl rfl rfl (E.PV.assign rfl rfl) ?_
  refine E.OW.nil ?_
  refine E.then_n ?_
  refine E.CW.seq ?_
  refine E.CW.seq ?_
  refine E.CW.region ?_
  refine E.OW.pure rfl rfl rfl (E.PV.move rfl rfl) ?_
  refine E.OW.pure rfl rfl rfl (E.PV.move rfl rfl) ?_
  (refine E.OW.call nm55 rfl rfl rfl rfl rfl rfl _ (fun w hw => rValidSides_ok _ _ w) ?_; rintro _ _ ⟨rfl, rfl⟩)
  refine E.OW.pure rfl rfl rfl (E.PV.not rfl rfl) ?_
  refine E.OW.nil ?_
  refine E.then_n ?_
  refine E.CW.cond rfl (fun hc => ?_) (fun hc => ?_)
  · simp only [E.b0, E.b1, E.b2, E.b3, E.b4, E.b5, E.b6, E.b7, E.b8, E.b9, E.b10, E.b11, E.b12, E.b13, E.b14, E.b15, E.b16, E.b17, E.b18, E.b19, E.b20, reduceCtorEq] at hc
    all_goals (
      refine E.CW.seq ?_
      have hv : Fl.valid a b = false := by assumption
      refine E.CW.put 13 (.int .i64 2) rfl (by rw [Fl.cells_bad hv]; rfl) ?_
      refine E.CW.put 16 (.int .i64 2) rfl (by rw [Fl.locate_bad (Fl.has_bad hv)]; rfl) ?_
      refine E.CW.put 18 (.int .i64 2) rfl (by rw [Fl.place_bad hv]; rfl) ?_
      refine E.CW.region ?_
      refine E.OW.pure rfl rfl rfl (E.PV.move rfl rfl) ?_
      refine E.OW.pure rfl rfl rfl (E.PV.move rfl rfl) ?_
      all_goals (refine E.OW.put 52 (.bool true) (v := .bool true) rfl rfl ?_)
      all_goals (refine E.OW.pure rfl rfl rfl (E.PV.move rfl rfl) ?_)
      all_goals (refine E.OW.pure rfl rfl rfl (E.PV.eql rfl rfl rfl) ?_)
      all_goals (refine E.OW.pure rfl rfl rfl (E.PV.pick_t rfl rfl rfl) ?_)
      all_goals (refine E.OW.pure rfl rfl rfl (E.PV.move rfl rfl) ?_)
      all_goals (refine E.OW.put 56 (.bool true) (v := .bool true) rfl rfl ?_)
      all_goals (refine E.OW.pure rfl rfl rfl (E.PV.move rfl rfl) ?_)
      all_goals (refine E.OW.pure rfl rfl rfl (E.PV.eql rfl rfl rfl) ?_)
      all_goals (refine E.OW.pure rfl rfl rfl (E.PV.pick_t rfl rfl rfl) ?_)
      all_goals (refine E.OW.pure rfl rfl rfl (E.PV.move rfl rfl) ?_)
      all_goals (refine E.OW.put 60 (.bool true) (v := .bool true) rfl rfl ?_)
      all_goals (refine E.OW.pure rfl rfl rfl (E.PV.move rfl rfl) ?_)
      all_goals (refine E.OW.pure rfl rfl rfl (E.PV.eql rfl rfl rfl) ?_)
      all_goals (refine E.OW.pure rfl rfl rfl (E.PV.pick_t rfl rfl rfl) ?_)
      all_goals (refine E.OW.pure rfl rfl rfl (E.PV.assign rfl rfl) ?_)
      all_goals (
        refine E.OW.nil ?_
        refine E.then_n ?_
        refine E.CW.ret ?_
        refine E.then_ret ?_
        refine E.KR.one [] Try.results7 rfl rfl ?_
        exact ⟨by first | rfl | (simp; done) | (simp [*]; done), rfl⟩))
  · simp only [E.b0, E.b1, E.b2, E.b3, E.b4, E.b5, E.b6, E.b7, E.b8, E.b9, E.b10, E.b11, E.b12, E.b13, E.b14, E.b15, E.b16, E.b17, E.b18, E.b19, E.b20, reduceCtorEq] at hc
    all_goals (
      refine E.CW.skip ?_
      refine E.then_n ?_
      refine E.CW.seq ?_
      refine E.CW.seq ?_
      have hv : Fl.valid a b = true := by assumption
      refine E.CW.put 12 (.int .i64 (a * b)) rfl (by rw [Fl.cells_ok hv]; rfl) ?_
      refine E.CW.put 13 (.int .i64 0) rfl (by rw [Fl.cells_ok hv]; rfl) ?_
      rcases Fl.locate_cases (p := p) hv with ⟨hl1, hl2, hl⟩ | ⟨hl1, hl⟩ <;> rcases Fl.place_cases (x := x) (y := y) hv with ⟨hp1, hp2, hp⟩ | ⟨hp1, hp⟩ <;> refine E.CW.put 14 _ rfl (by rw [hl]) ?_ <;> refine E.CW.put 15 _ rfl (by rw [hl]) ?_ <;> refine E.CW.put 16 _ rfl (by rw [hl]) ?_ <;> refine E.CW.put 17 _ rfl (by rw [hp]) ?_ <;> refine E.CW.put 18 _ rfl (by rw [hp]) ?_
      all_goals (
        refine E.CW.region ?_
        refine E.OW.pure rfl rfl rfl (E.PV.move rfl rfl) ?_
        refine E.OW.pure rfl rfl rfl (E.PV.neq rfl rfl rfl) ?_
        refine E.OW.pure rfl rfl rfl (E.PV.move rfl rfl) ?_
        all_goals (refine E.OW.put 66 (.bool false) (v := .bool false) rfl rfl ?_)
        all_goals (refine E.OW.pure rfl rfl rfl (E.PV.move rfl rfl) ?_)
        all_goals (refine E.OW.pure rfl rfl rfl (E.PV.eql rfl rfl rfl) ?_)
        all_goals (refine E.OW.pure rfl rfl rfl (E.PV.move rfl rfl) ?_)
        all_goals (refine E.OW.pure rfl rfl rfl (E.PV.geq rfl rfl rfl) ?_)
        all_goals (refine E.OW.pure rfl rfl rfl (E.PV.move rfl rfl) ?_)
        all_goals (first | (refine E.OW.put 71 (.bool true) rfl (congrArg Value.bool ?_) ?_; (focus ((simp only [E.b0, E.b1, E.b2, E.b3, E.b4, E.b5, E.b6, E.b7, E.b8, E.b9, E.b10, E.b11, E.b12, E.b13, E.b14, E.b15, E.b16, E.b17, E.b18, E.b19, E.b20]; omega)))) | (refine E.OW.split 71 rfl (fun hc => ?_) (fun hc => ?_) <;> (try simp only [E.b0, E.b1, E.b2, E.b3, E.b4, E.b5, E.b6, E.b7, E.b8, E.b9, E.b10, E.b11, E.b12, E.b13, E.b14, E.b15, E.b16, E.b17, E.b18, E.b19, E.b20, reduceCtorEq] at hc) <;> (try (exfalso; first | assumption | contradiction | omega))))
        all_goals (first | (refine E.OW.off rfl rfl rfl ?_) | (refine E.OW.pure rfl rfl rfl (E.PV.move rfl rfl) ?_))
        all_goals (first | (refine E.OW.off rfl rfl rfl ?_) | (refine E.OW.pure rfl rfl rfl (E.PV.move rfl rfl) ?_))
        all_goals (first | (refine E.OW.off rfl rfl rfl ?_) | (refine E.OW.pure rfl rfl rfl (E.PV.lss rfl rfl rfl) ?_))
        all_goals (first | (refine E.OW.pure rfl rfl rfl (E.PV.pick_t rfl rfl rfl) ?_) | (refine E.OW.pure rfl rfl rfl (E.PV.pick_f rfl rfl rfl) ?_))
        all_goals (refine E.OW.pure rfl rfl rfl (E.PV.bne Try.underlying4 rfl rfl rfl) ?_)
        all_goals (refine E.OW.pure rfl rfl rfl (E.PV.pick_f rfl rfl rfl) ?_)
        all_goals (refine E.OW.pure rfl rfl rfl (E.PV.move rfl rfl) ?_)
        all_goals (first | (refine E.OW.put 78 (.bool false) (v := .bool false) rfl rfl ?_) | (refine E.OW.put 78 (.bool false) rfl (congrArg Value.bool ?_) ?_; (focus ((simp [*]; done)))) | (refine E.OW.put 78 (.bool false) rfl (congrArg Value.bool ?_) ?_; (focus ((simp; omega)))))
        all_goals (refine E.OW.pure rfl rfl rfl (E.PV.move rfl rfl) ?_)
        all_goals (refine E.OW.pure rfl rfl rfl (E.PV.eql rfl rfl rfl) ?_)
        all_goals (refine E.OW.pure rfl rfl rfl (E.PV.move rfl rfl) ?_)
        all_goals (refine E.OW.pure rfl rfl rfl (E.PV.geq rfl rfl rfl) ?_)
        all_goals (refine E.OW.pure rfl rfl rfl (E.PV.move rfl rfl) ?_)
        all_goals (first | (refine E.OW.put 83 (.bool true) rfl (congrArg Value.bool ?_) ?_; (focus ((simp only [E.b0, E.b1, E.b2, E.b3, E.b4, E.b5, E.b6, E.b7, E.b8, E.b9, E.b10, E.b11, E.b12, E.b13, E.b14, E.b15, E.b16, E.b17, E.b18, E.b19, E.b20]; omega)))) | (refine E.OW.split 83 rfl (fun hc => ?_) (fun hc => ?_) <;> (try simp only [E.b0, E.b1, E.b2, E.b3, E.b4, E.b5, E.b6, E.b7, E.b8, E.b9, E.b10, E.b11, E.b12, E.b13, E.b14, E.b15, E.b16, E.b17, E.b18, E.b19, E.b20, reduceCtorEq] at hc) <;> (try (exfalso; first | assumption | contradiction | omega))))
        all_goals (first | (refine E.OW.off rfl rfl rfl ?_) | (refine E.OW.pure rfl rfl rfl (E.PV.move rfl rfl) ?_))
        all_goals (first | (refine E.OW.off rfl rfl rfl ?_) | (refine E.OW.pure rfl rfl rfl (E.PV.move rfl rfl) ?_))
        all_goals (first | (refine E.OW.off rfl rfl rfl ?_) | (refine E.OW.pure rfl rfl rfl (E.PV.lss rfl rfl rfl) ?_))
        all_goals (first | (refine E.OW.pure rfl rfl rfl (E.PV.pick_t rfl rfl rfl) ?_) | (refine E.OW.pure rfl rfl rfl (E.PV.pick_f rfl rfl rfl) ?_))
        all_goals (refine E.OW.pure rfl rfl rfl (E.PV.move rfl rfl) ?_)
        all_goals (first | (refine E.OW.put 88 (.bool false) (v := .bool false) rfl rfl ?_) | (refine E.OW.put 88 (.bool true) rfl (congrArg Value.bool ?_) ?_; (focus ((simp only [E.b0, E.b1, E.b2, E.b3, E.b4, E.b5, E.b6, E.b7, E.b8, E.b9, E.b10, E.b11, E.b12, E.b13, E.b14, E.b15, E.b16, E.b17, E.b18, E.b19, E.b20]; omega)))) | (refine E.OW.split 88 rfl (fun hc => ?_) (fun hc => ?_) <;> (try simp only [E.b0, E.b1, E.b2, E.b3, E.b4, E.b5, E.b6, E.b7, E.b8, E.b9, E.b10, E.b11, E.b12, E.b13, E.b14, E.b15, E.b16, E.b17, E.b18, E.b19, E.b20, reduceCtorEq] at hc) <;> (try (exfalso; first | assumption | contradiction | omega))))
        all_goals (first | (refine E.OW.off rfl rfl rfl ?_) | (refine E.OW.pure rfl rfl rfl (E.PV.move rfl rfl) ?_))
        all_goals (first | (refine E.OW.off rfl rfl rfl ?_) | (refine E.OW.pure rfl rfl rfl (E.PV.geq rfl rfl rfl) ?_))
        all_goals (first | (refine E.OW.pure rfl rfl rfl (E.PV.pick_t rfl rfl rfl) ?_) | (refine E.OW.pure rfl rfl rfl (E.PV.pick_f rfl rfl rfl) ?_))
        all_goals (refine E.OW.pure rfl rfl rfl (E.PV.move rfl rfl) ?_)
        all_goals (first | (refine E.OW.put 92 (.bool false) (v := .bool false) rfl rfl ?_) | (refine E.OW.put 92 (.bool true) rfl (congrArg Value.bool ?_) ?_; (focus ((simp only [E.b0, E.b1, E.b2, E.b3, E.b4, E.b5, E.b6, E.b7, E.b8, E.b9, E.b10, E.b11, E.b12, E.b13, E.b14, E.b15, E.b16, E.b17, E.b18, E.b19, E.b20]; omega)))) | (refine E.OW.split 92 rfl (fun hc => ?_) (fun hc => ?_) <;> (try simp only [E.b0, E.b1, E.b2, E.b3, E.b4, E.b5, E.b6, E.b7, E.b8, E.b9, E.b10, E.b11, E.b12, E.b13, E.b14, E.b15, E.b16, E.b17, E.b18, E.b19, E.b20, reduceCtorEq] at hc) <;> (try (exfalso; first | assumption | contradiction | omega))))
        all_goals (first | (refine E.OW.off rfl rfl rfl ?_) | (refine E.OW.pure rfl rfl rfl (E.PV.move rfl rfl) ?_))
        all_goals (first | (refine E.OW.off rfl rfl rfl ?_) | (refine E.OW.pure rfl rfl rfl (E.PV.move rfl rfl) ?_))
        all_goals (first | (refine E.OW.off rfl rfl rfl ?_) | (refine E.OW.pure rfl rfl rfl (E.PV.lss rfl rfl rfl) ?_))
        all_goals (first | (refine E.OW.pure rfl rfl rfl (E.PV.pick_t rfl rfl rfl) ?_) | (refine E.OW.pure rfl rfl rfl (E.PV.pick_f rfl rfl rfl) ?_))
        all_goals (refine E.OW.pure rfl rfl rfl (E.PV.bne Try.underlying4 rfl rfl rfl) ?_)
        all_goals (refine E.OW.pure rfl rfl rfl (E.PV.pick_f rfl rfl rfl) ?_)
        all_goals (
          refine E.OW.nil ?_
          refine E.then_n ?_
          refine E.CW.cond rfl (fun hc => ?_) (fun hc => ?_)
          · first | ((cases hc; done)) | (simp only [E.b0, E.b1, E.b2, E.b3, E.b4, E.b5, E.b6, E.b7, E.b8, E.b9, E.b10, E.b11, E.b12, E.b13, E.b14, E.b15, E.b16, E.b17, E.b18, E.b19, E.b20, reduceCtorEq] at hc)
            all_goals (exfalso; first | ((simp_all; done)) | ((simp at hc; omega)))
          · simp only [E.b0, E.b1, E.b2, E.b3, E.b4, E.b5, E.b6, E.b7, E.b8, E.b9, E.b10, E.b11, E.b12, E.b13, E.b14, E.b15, E.b16, E.b17, E.b18, E.b19, E.b20, reduceCtorEq] at hc
            all_goals (
              refine E.CW.skip ?_
              refine E.then_n ?_
              refine E.CW.seq ?_
              refine E.CW.seq ?_
              refine E.CW.region ?_
              refine E.OW.pure rfl rfl rfl (E.PV.move rfl rfl) ?_
              refine E.OW.pure rfl rfl rfl (E.PV.eql rfl rfl rfl) ?_
              refine E.OW.nil ?_
              refine E.then_n ?_
              refine E.CW.cond rfl (fun hc => ?_) (fun hc => ?_)
              · first | ((cases hc; done)) | (simp only [E.b0, E.b1, E.b2, E.b3, E.b4, E.b5, E.b6, E.b7, E.b8, E.b9, E.b10, E.b11, E.b12, E.b13, E.b14, E.b15, E.b16, E.b17, E.b18, E.b19, E.b20, reduceCtorEq] at hc)
                all_goals (
                  refine E.CW.seq ?_
                  refine E.CW.region ?_
                  refine E.OW.pure rfl rfl rfl (E.PV.move rfl rfl) ?_
                  refine E.OW.pure rfl rfl rfl (E.PV.move rfl rfl) ?_
                  refine E.OW.pure rfl rfl rfl (E.PV.move rfl rfl) ?_
                  refine E.OW.pure rfl rfl rfl (E.PV.move rfl rfl) ?_
                  (refine E.OW.call nm31 rfl rfl rfl rfl rfl rfl _ (fun w hw => Place_ok _ _ _ _ w) ?_; rintro _ _ ⟨rfl, rfl⟩)
                  refine E.OW.pure rfl rfl rfl (E.PV.move rfl rfl) ?_
                  refine E.OW.pure rfl rfl rfl (E.PV.extract rfl rfl rfl) ?_
                  refine E.OW.pure rfl rfl rfl (E.PV.extract rfl rfl rfl) ?_
                  refine E.OW.pure rfl rfl rfl (E.PV.assign rfl rfl) ?_
                  refine E.OW.pure rfl rfl rfl (E.PV.assign rfl rfl) ?_
                  refine E.OW.nil ?_
                  refine E.then_n ?_
                  refine E.CW.seq ?_
                  have hb := Fl.place_back hv ⟨hl1, hl2⟩
                  refine E.CW.put 19 (.int .i64 p) rfl (by rw [hb]; rfl) ?_
                  refine E.CW.put 20 (.int .i64 0) rfl (by rw [hb]; rfl) ?_
                  refine E.CW.region ?_
                  refine E.OW.pure rfl rfl rfl (E.PV.move rfl rfl) ?_
                  refine E.OW.pure rfl rfl rfl (E.PV.move rfl rfl) ?_
                  refine E.OW.pure rfl rfl rfl (E.PV.move rfl rfl) ?_
                  (refine E.OW.call nm56 rfl rfl rfl rfl rfl rfl _ (fun w hw => is_ok _ _ _ w) ?_; rintro _ _ ⟨rfl, rfl⟩)
                  refine E.OW.pure rfl rfl rfl (E.PV.not rfl rfl) ?_
                  refine E.OW.nil ?_
                  refine E.then_n ?_
                  refine E.CW.cond rfl (fun hc => ?_) (fun hc => ?_)
                  · simp only [E.b0, E.b1, E.b2, E.b3, E.b4, E.b5, E.b6, E.b7, E.b8, E.b9, E.b10, E.b11, E.b12, E.b13, E.b14, E.b15, E.b16, E.b17, E.b18, E.b19, E.b20, reduceCtorEq] at hc
                    all_goals (exfalso; contradiction)
                  · simp only [E.b0, E.b1, E.b2, E.b3, E.b4, E.b5, E.b6, E.b7, E.b8, E.b9, E.b10, E.b11, E.b12, E.b13, E.b14, E.b15, E.b16, E.b17, E.b18, E.b19, E.b20, reduceCtorEq] at hc
                    all_goals (
                      refine E.CW.skip ?_
                      refine E.then_n ?_
                      refine E.CW.seq ?_
                      refine E.CW.seq ?_
                      refine E.CW.region ?_
                      refine E.OW.pure rfl rfl rfl (E.PV.move rfl rfl) ?_
                      refine E.OW.pure rfl rfl rfl (E.PV.eql rfl rfl rfl) ?_
                      refine E.OW.nil ?_
                      refine E.then_n ?_
                      refine E.CW.cond rfl (fun hc => ?_) (fun hc => ?_)
                      · first | ((cases hc; done)) | (simp only [E.b0, E.b1, E.b2, E.b3, E.b4, E.b5, E.b6, E.b7, E.b8, E.b9, E.b10, E.b11, E.b12, E.b13, E.b14, E.b15, E.b16, E.b17, E.b18, E.b19, E.b20, reduceCtorEq] at hc)
                        all_goals (
                          refine E.CW.seq ?_
                          refine E.CW.region ?_
                          refine E.OW.pure rfl rfl rfl (E.PV.move rfl rfl) ?_
                          refine E.OW.pure rfl rfl rfl (E.PV.move rfl rfl) ?_
                          refine E.OW.pure rfl rfl rfl (E.PV.move rfl rfl) ?_
                          (refine E.OW.call nm29 rfl rfl rfl rfl rfl rfl _ (fun w hw => Locate_ok _ _ _ w) ?_; rintro _ _ ⟨rfl, rfl⟩)
                          refine E.OW.pure rfl rfl rfl (E.PV.move rfl rfl) ?_
                          refine E.OW.pure rfl rfl rfl (E.PV.extract rfl rfl rfl) ?_
                          refine E.OW.pure rfl rfl rfl (E.PV.extract rfl rfl rfl) ?_
                          refine E.OW.pure rfl rfl rfl (E.PV.extract rfl rfl rfl) ?_
                          refine E.OW.pure rfl rfl rfl (E.PV.assign rfl rfl) ?_
                          refine E.OW.pure rfl rfl rfl (E.PV.assign rfl rfl) ?_
                          refine E.OW.pure rfl rfl rfl (E.PV.assign rfl rfl) ?_
                          refine E.OW.nil ?_
                          refine E.then_n ?_
                          refine E.CW.seq ?_
                          have hb2 := Fl.locate_back hv hp1 hp2
                          refine E.CW.put 21 (.int .i64 x) rfl (by rw [hb2]; rfl) ?_
                          refine E.CW.put 22 (.int .i64 y) rfl (by rw [hb2]; rfl) ?_
                          refine E.CW.put 23 (.int .i64 0) rfl (by rw [hb2]; rfl) ?_
                          refine E.CW.region ?_
                          refine E.OW.pure rfl rfl rfl (E.PV.move rfl rfl) ?_
                          refine E.OW.pure rfl rfl rfl (E.PV.move rfl rfl) ?_
                          all_goals (refine E.OW.put 125 (.bool true) (v := .bool true) rfl rfl ?_)
                          all_goals (refine E.OW.pure rfl rfl rfl (E.PV.move rfl rfl) ?_)
                          all_goals (refine E.OW.pure rfl rfl rfl (E.PV.eql rfl rfl rfl) ?_)
                          all_goals (refine E.OW.pure rfl rfl rfl (E.PV.pick_t rfl rfl rfl) ?_)
                          all_goals (refine E.OW.pure rfl rfl rfl (E.PV.move rfl rfl) ?_)
                          all_goals (refine E.OW.put 129 (.bool true) (v := .bool true) rfl rfl ?_)
                          all_goals (refine E.OW.pure rfl rfl rfl (E.PV.move rfl rfl) ?_)
                          all_goals (refine E.OW.pure rfl rfl rfl (E.PV.move rfl rfl) ?_)
                          all_goals (refine E.OW.pure rfl rfl rfl (E.PV.eql rfl rfl rfl) ?_)
                          all_goals (refine E.OW.pure rfl rfl rfl (E.PV.pick_t rfl rfl rfl) ?_)
                          all_goals (refine E.OW.pure rfl rfl rfl (E.PV.move rfl rfl) ?_)
                          all_goals (refine E.OW.put 134 (.bool true) rfl (congrArg Value.bool ?_) ?_; (focus ((simp only [E.b0, E.b1, E.b2, E.b3, E.b4, E.b5, E.b6, E.b7, E.b8, E.b9, E.b10, E.b11, E.b12, E.b13, E.b14, E.b15, E.b16, E.b17, E.b18, E.b19, E.b20]; done))))
                          all_goals (refine E.OW.pure rfl rfl rfl (E.PV.move rfl rfl) ?_)
                          all_goals (refine E.OW.pure rfl rfl rfl (E.PV.move rfl rfl) ?_)
                          all_goals (refine E.OW.pure rfl rfl rfl (E.PV.eql rfl rfl rfl) ?_)
                          all_goals (refine E.OW.pure rfl rfl rfl (E.PV.pick_t rfl rfl rfl) ?_)
                          all_goals (refine E.OW.pure rfl rfl rfl (E.PV.assign rfl rfl) ?_)
                          all_goals (
                            refine E.OW.nil ?_
                            refine E.then_n ?_
                            refine E.CW.ret ?_
                            refine E.then_ret ?_
                            refine E.KR.one [] Try.results7 rfl rfl ?_
                            exact ⟨by first | rfl | (simp; done) | (simp [*]; done), rfl⟩))
                      · first | ((cases hc; done)) | (simp only [E.b0, E.b1, E.b2, E.b3, E.b4, E.b5, E.b6, E.b7, E.b8, E.b9, E.b10, E.b11, E.b12, E.b13, E.b14, E.b15, E.b16, E.b17, E.b18, E.b19, E.b20, reduceCtorEq] at hc)
                        all_goals (
                          refine E.CW.skip ?_
                          refine E.then_n ?_
                          refine E.CW.seq ?_
                          refine E.CW.region ?_
                          refine E.OW.pure rfl rfl rfl (E.PV.move rfl rfl) ?_
                          refine E.OW.pure rfl rfl rfl (E.PV.assign rfl rfl) ?_
                          refine E.OW.nil ?_
                          refine E.then_n ?_
                          refine E.CW.ret ?_
                          refine E.KR.one [] Try.results7 rfl rfl ?_
                          exact ⟨by first | rfl | (simp; done) | (simp [*]; done), rfl⟩)))
              · first | ((cases hc; done)) | (simp only [E.b0, E.b1, E.b2, E.b3, E.b4, E.b5, E.b6, E.b7, E.b8, E.b9, E.b10, E.b11, E.b12, E.b13, E.b14, E.b15, E.b16, E.b17, E.b18, E.b19, E.b20, reduceCtorEq] at hc)
                all_goals (
                  refine E.CW.skip ?_
                  refine E.then_n ?_
                  refine E.CW.seq ?_
                  refine E.CW.seq ?_
                  refine E.CW.region ?_
                  refine E.OW.pure rfl rfl rfl (E.PV.move rfl rfl) ?_
                  refine E.OW.pure rfl rfl rfl (E.PV.eql rfl rfl rfl) ?_
                  refine E.OW.nil ?_
                  refine E.then_n ?_
                  refine E.CW.cond rfl (fun hc => ?_) (fun hc => ?_)
                  · first | ((cases hc; done)) | (simp only [E.b0, E.b1, E.b2, E.b3, E.b4, E.b5, E.b6, E.b7, E.b8, E.b9, E.b10, E.b11, E.b12, E.b13, E.b14, E.b15, E.b16, E.b17, E.b18, E.b19, E.b20, reduceCtorEq] at hc)
                    all_goals (
                      refine E.CW.seq ?_
                      refine E.CW.region ?_
                      refine E.OW.pure rfl rfl rfl (E.PV.move rfl rfl) ?_
                      refine E.OW.pure rfl rfl rfl (E.PV.move rfl rfl) ?_
                      refine E.OW.pure rfl rfl rfl (E.PV.move rfl rfl) ?_
                      (refine E.OW.call nm29 rfl rfl rfl rfl rfl rfl _ (fun w hw => Locate_ok _ _ _ w) ?_; rintro _ _ ⟨rfl, rfl⟩)
                      refine E.OW.pure rfl rfl rfl (E.PV.move rfl rfl) ?_
                      refine E.OW.pure rfl rfl rfl (E.PV.extract rfl rfl rfl) ?_
                      refine E.OW.pure rfl rfl rfl (E.PV.extract rfl rfl rfl) ?_
                      refine E.OW.pure rfl rfl rfl (E.PV.extract rfl rfl rfl) ?_
                      refine E.OW.pure rfl rfl rfl (E.PV.assign rfl rfl) ?_
                      refine E.OW.pure rfl rfl rfl (E.PV.assign rfl rfl) ?_
                      refine E.OW.pure rfl rfl rfl (E.PV.assign rfl rfl) ?_
                      refine E.OW.nil ?_
                      refine E.then_n ?_
                      refine E.CW.seq ?_
                      have hb2 := Fl.locate_back hv hp1 hp2
                      refine E.CW.put 21 (.int .i64 x) rfl (by rw [hb2]; rfl) ?_
                      refine E.CW.put 22 (.int .i64 y) rfl (by rw [hb2]; rfl) ?_
                      refine E.CW.put 23 (.int .i64 0) rfl (by rw [hb2]; rfl) ?_
                      refine E.CW.region ?_
                      refine E.OW.pure rfl rfl rfl (E.PV.move rfl rfl) ?_
                      refine E.OW.pure rfl rfl rfl (E.PV.move rfl rfl) ?_
                      all_goals (refine E.OW.put 125 (.bool true) (v := .bool true) rfl rfl ?_)
                      all_goals (refine E.OW.pure rfl rfl rfl (E.PV.move rfl rfl) ?_)
                      all_goals (refine E.OW.pure rfl rfl rfl (E.PV.eql rfl rfl rfl) ?_)
                      all_goals (refine E.OW.pure rfl rfl rfl (E.PV.pick_t rfl rfl rfl) ?_)
                      all_goals (refine E.OW.pure rfl rfl rfl (E.PV.move rfl rfl) ?_)
                      all_goals (refine E.OW.put 129 (.bool true) (v := .bool true) rfl rfl ?_)
                      all_goals (refine E.OW.pure rfl rfl rfl (E.PV.move rfl rfl) ?_)
                      all_goals (refine E.OW.pure rfl rfl rfl (E.PV.move rfl rfl) ?_)
                      all_goals (refine E.OW.pure rfl rfl rfl (E.PV.eql rfl rfl rfl) ?_)
                      all_goals (refine E.OW.pure rfl rfl rfl (E.PV.pick_t rfl rfl rfl) ?_)
                      all_goals (refine E.OW.pure rfl rfl rfl (E.PV.move rfl rfl) ?_)
                      all_goals (refine E.OW.put 134 (.bool true) rfl (congrArg Value.bool ?_) ?_; (focus ((simp only [E.b0, E.b1, E.b2, E.b3, E.b4, E.b5, E.b6, E.b7, E.b8, E.b9, E.b10, E.b11, E.b12, E.b13, E.b14, E.b15, E.b16, E.b17, E.b18, E.b19, E.b20]; done))))
                      all_goals (refine E.OW.pure rfl rfl rfl (E.PV.move rfl rfl) ?_)
                      all_goals (refine E.OW.pure rfl rfl rfl (E.PV.move rfl rfl) ?_)
                      all_goals (refine E.OW.pure rfl rfl rfl (E.PV.eql rfl rfl rfl) ?_)
                      all_goals (refine E.OW.pure rfl rfl rfl (E.PV.pick_t rfl rfl rfl) ?_)
                      all_goals (refine E.OW.pure rfl rfl rfl (E.PV.assign rfl rfl) ?_)
                      all_goals (
                        refine E.OW.nil ?_
                        refine E.then_n ?_
                        refine E.CW.ret ?_
                        refine E.then_ret ?_
                        refine E.KR.one [] Try.results7 rfl rfl ?_
                        exact ⟨by first | rfl | (simp; done) | (simp [*]; done), rfl⟩))
                  · first | ((cases hc; done)) | (simp only [E.b0, E.b1, E.b2, E.b3, E.b4, E.b5, E.b6, E.b7, E.b8, E.b9, E.b10, E.b11, E.b12, E.b13, E.b14, E.b15, E.b16, E.b17, E.b18, E.b19, E.b20, reduceCtorEq] at hc)
                    all_goals (
                      refine E.CW.skip ?_
                      refine E.then_n ?_
                      refine E.CW.seq ?_
                      refine E.CW.region ?_
                      refine E.OW.pure rfl rfl rfl (E.PV.move rfl rfl) ?_
                      refine E.OW.pure rfl rfl rfl (E.PV.assign rfl rfl) ?_
                      refine E.OW.nil ?_
                      refine E.then_n ?_
                      refine E.CW.ret ?_
                      refine E.KR.one [] Try.results7 rfl rfl ?_
                      exact ⟨by first | rfl | (simp; done) | (simp [*]; done), rfl⟩))))))
end Go.Proofs.Ytbofflmmgokkhaa
