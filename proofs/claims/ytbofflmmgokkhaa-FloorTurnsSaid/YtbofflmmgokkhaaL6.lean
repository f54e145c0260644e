/- Walks (printed by gen.py). -/
import Derived.Test.YtbofflmmgokkhaaG6
import Derived.Test.YtbofflmmgokkhaaFlO
namespace Go.Proofs.Ytbofflmmgokkhaa
open Go Go.RowKit
set_option linter.unusedSimpArgs false
set_option linter.unusedVariables false

set_option maxRecDepth 100000 in
theorem FloorTurns_ok (a b p d e : Int) (w0 : World) :
    Calls Try.prog 8 #[.int .i64 a, .int .i64 b, .int .i64 p, .int .i64 d, .int .i64 e] w0 (E.Post w0 (E.Old w0) fun v Hn => v = .bool true ∧ Hn = []) := by
  refine E.calls_of (vs := [.int .i64 a, .int .i64 b, .int .i64 p, .int .i64 d, .int .i64 e]) (H := []) Try.func8 Try.ntmps8 rfl rfl (E.HA.start w0) ?_
  refine E.CW.seq ?_
  refine E.CW.region ?_
  refine E.OW.pure rfl rfl rfl (E.PV.assign rfl rfl) ?_
  refine E.OW.nil ?_
  refine E.then_n ?_
  refine E.CW.seq ?_
  refine E.CW.region ?_
  (refine E.OW.call nm54 rfl rfl rfl rfl rfl rfl _ (fun w hw => alive_ok w) ?_; rintro _ _ ⟨rfl, rfl⟩)
  refine E.OW.pure rfl rfl rfl (E.PV.assign rfl rfl) ?_
  refine E.OW.nil ?_
  refine E.then_n ?_
  refine E.CW.seq ?_
  refine E.CW.region ?_
  refine E.OW.pure rfl rfl rfl (E.PV.move rfl rfl) ?_
  refine E.OW.pure rfl rfl rfl (E.PV.move rfl rfl) ?_
  refine E.OW.pure rfl rfl rfl (E.PV.move rfl rfl) ?_
  refine E.OW.pure rfl rfl rfl (E.PV.move rfl rfl) ?_
  (refine E.OW.call nm33 rfl rfl rfl rfl rfl rfl _ (fun w hw => Step_ok _ _ _ _ w) ?_; rintro _ _ ⟨rfl, rfl⟩)
  refine E.OW.pure rfl rfl rfl (E.PV.move rfl rfl) ?_
  refine E.OW.pure rfl rfl rfl (E.PV.extract rfl rfl rfl) ?_
  refine E.OW.pure rfl rfl rfl (E.PV.extract rfl rfl rfl) ?_
  refine E.OW.pure rfl rfl rfl (E.PV.assign rfl rfl) ?_
  refine E.OW.pure rfl rfl rfl (E.PV.assign rfl rfl) ?_
  refine E.OW.nil ?_
  refine E.then_n ?_
  refine E.CW.seq ?_
  refine E.CW.region ?_
  refine E.OW.pure rfl rfl rfl (E.PV.move rfl rfl) ?_
  refine E.OW.pure rfl rfl rfl (E.PV.move rfl rfl) ?_
  refine E.OW.pure rfl rfl rfl (E.PV.move rfl rfl) ?_
  refine E.OW.pure rfl rfl rfl (E.PV.move rfl rfl) ?_
  (refine E.OW.call nm33 rfl rfl rfl rfl rfl rfl _ (fun w hw => Step_ok _ _ _ _ w) ?_; rintro _ _ ⟨rfl, rfl⟩)
  refine E.OW.pure rfl rfl rfl (E.PV.move rfl rfl) ?_
  refine E.OW.pure rfl rfl rfl (E.PV.extract rfl rfl rfl) ?_
  refine E.OW.pure rfl rfl rfl (E.PV.extract rfl rfl rfl) ?_
  refine E.OW.pure rfl rfl rfl (E.PV.assign rfl rfl) ?_
  refine E.OW.pure rfl rfl rfl (E.PV.assign rfl rfl) ?_
  refine E.OW.nil ?_
  refine E.then_n ?_
  refine E.CW.seq ?_
  refine E.CW.seq ?_
  rcases Fl.step_cases (w := a) (h := b) (p := p) (d := d) with ⟨hh, hd, h0, hs⟩ | ⟨hh, hd, h0, hs⟩ | ⟨hh, hs⟩ <;> refine E.CW.put 12 _ rfl (by rw [hs]) ?_ <;> refine E.CW.put 13 _ rfl (by rw [hs]) ?_
  all_goals (
    refine E.CW.region ?_
    refine E.OW.pure rfl rfl rfl (E.PV.move rfl rfl) ?_
    refine E.OW.pure rfl rfl rfl (E.PV.neq rfl rfl rfl) ?_
    refine E.OW.pure rfl rfl rfl (E.PV.move rfl rfl) ?_
    all_goals (first | (refine E.OW.put 41 (.bool true) (v := .bool true) rfl rfl ?_) | (refine E.OW.put 41 (.bool false) (v := .bool false) rfl rfl ?_))
    all_goals (first | (refine E.OW.off rfl rfl rfl ?_) | (refine E.OW.pure rfl rfl rfl (E.PV.move rfl rfl) ?_))
    all_goals (first | (refine E.OW.off rfl rfl rfl ?_) | (refine E.OW.pure rfl rfl rfl (E.PV.not rfl rfl) ?_))
    all_goals (first | (refine E.OW.pure rfl rfl rfl (E.PV.pick_t rfl rfl rfl) ?_) | (refine E.OW.pure rfl rfl rfl (E.PV.pick_f rfl rfl rfl) ?_))
    all_goals (
      refine E.OW.nil ?_
      refine E.then_n ?_
      refine E.CW.cond rfl (fun hc => ?_) (fun hc => ?_)
      · first | ((cases hc; done)) | (simp only [E.b0, E.b1, E.b2, E.b3, E.b4, E.b5, E.b6, E.b7, E.b8, E.b9, E.b10, E.b11, E.b12, E.b13, E.b14, E.b15, E.b16, E.b17, E.b18, E.b19, E.b20, reduceCtorEq] at hc)
        all_goals (
          refine E.CW.seq ?_
          refine E.CW.region ?_
          refine E.OW.pure rfl rfl rfl (E.PV.move rfl rfl) ?_
          refine E.OW.pure rfl rfl rfl (E.PV.assign rfl rfl) ?_
          refine E.OW.nil ?_
          refine E.then_n ?_
          refine E.CW.ret ?_
          refine E.then_ret ?_
          refine E.KR.one [] Try.results8 rfl rfl ?_
          exact ⟨by first | rfl | (simp; done) | (simp [*]; done) | (simp; omega), rfl⟩)
      · first | ((cases hc; done)) | (simp only [E.b0, E.b1, E.b2, E.b3, E.b4, E.b5, E.b6, E.b7, E.b8, E.b9, E.b10, E.b11, E.b12, E.b13, E.b14, E.b15, E.b16, E.b17, E.b18, E.b19, E.b20, reduceCtorEq] at hc)
        all_goals (
          refine E.CW.skip ?_
          refine E.then_n ?_
          refine E.CW.seq ?_
          refine E.CW.region ?_
          refine E.OW.pure rfl rfl rfl (E.PV.move rfl rfl) ?_
          refine E.OW.pure rfl rfl rfl (E.PV.move rfl rfl) ?_
          refine E.OW.pure rfl rfl rfl (E.PV.move rfl rfl) ?_
          refine E.OW.pure rfl rfl rfl (E.PV.move rfl rfl) ?_
          refine E.OW.pure rfl rfl rfl (E.PV.add_i64 rfl rfl rfl ?_) ?_; (focus (omega))
          refine E.OW.pure rfl rfl rfl (E.PV.rem_i64 rfl rfl rfl ?_ ?_) ?_; (focus (omega)); (focus (omega))
          (refine E.OW.call nm33 rfl rfl rfl rfl rfl rfl _ (fun w hw => Step_ok _ _ _ _ w) ?_; rintro _ _ ⟨rfl, rfl⟩)
          refine E.OW.pure rfl rfl rfl (E.PV.move rfl rfl) ?_
          refine E.OW.pure rfl rfl rfl (E.PV.extract rfl rfl rfl) ?_
          refine E.OW.pure rfl rfl rfl (E.PV.extract rfl rfl rfl) ?_
          refine E.OW.pure rfl rfl rfl (E.PV.assign rfl rfl) ?_
          refine E.OW.pure rfl rfl rfl (E.PV.assign rfl rfl) ?_
          refine E.OW.nil ?_
          refine E.then_n ?_
          refine E.CW.seq ?_
          refine E.CW.seq ?_
          have hb := Fl.turn_back hh hd h0
          refine E.CW.put 16 (.int .i64 p) rfl (by rw [hb]; rfl) ?_
          refine E.CW.put 17 (.int .i64 0) rfl (by rw [hb]; rfl) ?_
          refine E.CW.region ?_
          refine E.OW.pure rfl rfl rfl (E.PV.move rfl rfl) ?_
          refine E.OW.pure rfl rfl rfl (E.PV.move rfl rfl) ?_
          refine E.OW.pure rfl rfl rfl (E.PV.move rfl rfl) ?_
          (refine E.OW.call nm56 rfl rfl rfl rfl rfl rfl _ (fun w hw => is_ok _ _ _ w) ?_; rintro _ _ ⟨rfl, rfl⟩)
          refine E.OW.pure rfl rfl rfl (E.PV.not rfl rfl) ?_
          refine E.OW.nil ?_
          refine E.then_n ?_
          refine E.CW.cond rfl (fun hc => ?_) (fun hc => ?_)
          · simp only [E.b0, E.b1, E.b2, E.b3, E.b4, E.b5, E.b6, E.b7, E.b8, E.b9, E.b10, E.b11, E.b12, E.b13, E.b14, E.b15, E.b16, E.b17, E.b18, E.b19, E.b20, reduceCtorEq] at hc
            all_goals (exfalso; contradiction)
          · simp only [E.b0, E.b1, E.b2, E.b3, E.b4, E.b5, E.b6, E.b7, E.b8, E.b9, E.b10, E.b11, E.b12, E.b13, E.b14, E.b15, E.b16, E.b17, E.b18, E.b19, E.b20, reduceCtorEq] at hc
            all_goals (
              refine E.CW.skip ?_
              refine E.then_n ?_
              refine E.CW.seq ?_
              refine E.CW.seq ?_
              rcases Fl.step_cases (w := a) (h := b) (p := p) (d := e) with ⟨kh, kd, k0, ks⟩ | ⟨kh, kd, k0, ks⟩ | ⟨kh, ks⟩ <;> refine E.CW.put 14 _ rfl (by rw [ks]) ?_ <;> refine E.CW.put 15 _ rfl (by rw [ks]) ?_
              all_goals (
                refine E.CW.region ?_
                refine E.OW.pure rfl rfl rfl (E.PV.move rfl rfl) ?_
                refine E.OW.pure rfl rfl rfl (E.PV.neq rfl rfl rfl) ?_
                refine E.OW.pure rfl rfl rfl (E.PV.move rfl rfl) ?_
                all_goals (first | (refine E.OW.put 63 (.bool true) (v := .bool true) rfl rfl ?_) | (refine E.OW.put 63 (.bool false) (v := .bool false) rfl rfl ?_))
                all_goals (first | (refine E.OW.off rfl rfl rfl ?_) | (refine E.OW.pure rfl rfl rfl (E.PV.move rfl rfl) ?_))
                all_goals (first | (refine E.OW.off rfl rfl rfl ?_) | (refine E.OW.pure rfl rfl rfl (E.PV.move rfl rfl) ?_))
                all_goals (first | (refine E.OW.off rfl rfl rfl ?_) | (refine E.OW.pure rfl rfl rfl (E.PV.add_i64 rfl rfl rfl ?_) ?_; (focus (omega))))
                all_goals (first | (refine E.OW.off rfl rfl rfl ?_) | (refine E.OW.pure rfl rfl rfl (E.PV.rem_i64 rfl rfl rfl ?_ ?_) ?_; (focus (omega)); (focus (omega))))
                all_goals (first | (refine E.OW.off rfl rfl rfl ?_) | (refine E.OW.pure rfl rfl rfl (E.PV.eql rfl rfl rfl) ?_))
                all_goals (first | (refine E.OW.pure rfl rfl rfl (E.PV.pick_t rfl rfl rfl) ?_) | (refine E.OW.pure rfl rfl rfl (E.PV.pick_f rfl rfl rfl) ?_))
                all_goals (
                  refine E.OW.nil ?_
                  refine E.then_n ?_
                  refine E.CW.cond rfl (fun hc => ?_) (fun hc => ?_)
                  · simp only [E.b0, E.b1, E.b2, E.b3, E.b4, E.b5, E.b6, E.b7, E.b8, E.b9, E.b10, E.b11, E.b12, E.b13, E.b14, E.b15, E.b16, E.b17, E.b18, E.b19, E.b20, reduceCtorEq] at hc
                    all_goals (
                      refine E.CW.seq ?_
                      refine E.CW.region ?_
                      refine E.OW.pure rfl rfl rfl (E.PV.move rfl rfl) ?_
                      refine E.OW.pure rfl rfl rfl (E.PV.assign rfl rfl) ?_
                      refine E.OW.nil ?_
                      refine E.then_n ?_
                      refine E.CW.ret ?_
                      refine E.then_ret ?_
                      refine E.KR.one [] Try.results8 rfl rfl ?_
                      exact ⟨by first | rfl | (simp; done) | (simp [*]; done) | (simp; omega), rfl⟩)
                  · first | ((cases hc; done)) | (simp only [E.b0, E.b1, E.b2, E.b3, E.b4, E.b5, E.b6, E.b7, E.b8, E.b9, E.b10, E.b11, E.b12, E.b13, E.b14, E.b15, E.b16, E.b17, E.b18, E.b19, E.b20, reduceCtorEq] at hc)
                    all_goals (
                      refine E.CW.skip ?_
                      refine E.then_n ?_
                      refine E.CW.seq ?_
                      refine E.CW.region ?_
                      refine E.OW.pure rfl rfl rfl (E.PV.move rfl rfl) ?_
                      refine E.OW.pure rfl rfl rfl (E.PV.move rfl rfl) ?_
                      refine E.OW.pure rfl rfl rfl (E.PV.move rfl rfl) ?_
                      refine E.OW.pure rfl rfl rfl (E.PV.move rfl rfl) ?_
                      (refine E.OW.call nm33 rfl rfl rfl rfl rfl rfl _ (fun w hw => Step_ok _ _ _ _ w) ?_; rintro _ _ ⟨rfl, rfl⟩)
                      refine E.OW.pure rfl rfl rfl (E.PV.move rfl rfl) ?_
                      refine E.OW.pure rfl rfl rfl (E.PV.extract rfl rfl rfl) ?_
                      refine E.OW.pure rfl rfl rfl (E.PV.extract rfl rfl rfl) ?_
                      refine E.OW.pure rfl rfl rfl (E.PV.assign rfl rfl) ?_
                      refine E.OW.pure rfl rfl rfl (E.PV.assign rfl rfl) ?_
                      refine E.OW.nil ?_
                      refine E.then_n ?_
                      refine E.CW.seq ?_
                      refine E.CW.region ?_
                      refine E.OW.pure rfl rfl rfl (E.PV.move rfl rfl) ?_
                      refine E.OW.pure rfl rfl rfl (E.PV.move rfl rfl) ?_
                      refine E.OW.pure rfl rfl rfl (E.PV.move rfl rfl) ?_
                      refine E.OW.pure rfl rfl rfl (E.PV.move rfl rfl) ?_
                      (refine E.OW.call nm33 rfl rfl rfl rfl rfl rfl _ (fun w hw => Step_ok _ _ _ _ w) ?_; rintro _ _ ⟨rfl, rfl⟩)
                      refine E.OW.pure rfl rfl rfl (E.PV.move rfl rfl) ?_
                      refine E.OW.pure rfl rfl rfl (E.PV.extract rfl rfl rfl) ?_
                      refine E.OW.pure rfl rfl rfl (E.PV.extract rfl rfl rfl) ?_
                      refine E.OW.pure rfl rfl rfl (E.PV.assign rfl rfl) ?_
                      refine E.OW.pure rfl rfl rfl (E.PV.assign rfl rfl) ?_
                      refine E.OW.nil ?_
                      refine E.then_n ?_
                      refine E.CW.seq ?_
                      obtain ⟨r, e1, e2⟩ := Fl.turn_comm hh hd kd h0 k0 (by assumption)
                      refine E.CW.put 18 (.int .i64 r) rfl (by rw [e1]; rfl) ?_
                      refine E.CW.put 19 (.int .i64 0) rfl (by rw [e1]; rfl) ?_
                      refine E.CW.put 20 (.int .i64 r) rfl (by rw [e2]; rfl) ?_
                      refine E.CW.put 21 (.int .i64 0) rfl (by rw [e2]; rfl) ?_
                      refine E.CW.region ?_
                      refine E.OW.pure rfl rfl rfl (E.PV.move rfl rfl) ?_
                      refine E.OW.pure rfl rfl rfl (E.PV.move rfl rfl) ?_
                      all_goals (refine E.OW.put 88 (.bool true) (v := .bool true) rfl rfl ?_)
                      all_goals (refine E.OW.pure rfl rfl rfl (E.PV.move rfl rfl) ?_)
                      all_goals (refine E.OW.pure rfl rfl rfl (E.PV.eql rfl rfl rfl) ?_)
                      all_goals (refine E.OW.pure rfl rfl rfl (E.PV.pick_t rfl rfl rfl) ?_)
                      all_goals (refine E.OW.pure rfl rfl rfl (E.PV.move rfl rfl) ?_)
                      all_goals (refine E.OW.put 92 (.bool true) (v := .bool true) rfl rfl ?_)
                      all_goals (refine E.OW.pure rfl rfl rfl (E.PV.move rfl rfl) ?_)
                      all_goals (refine E.OW.pure rfl rfl rfl (E.PV.move rfl rfl) ?_)
                      all_goals (refine E.OW.pure rfl rfl rfl (E.PV.move rfl rfl) ?_)
                      all_goals ((refine E.OW.call nm56 rfl rfl rfl rfl rfl rfl _ (fun w hw => is_ok _ _ _ w) ?_; rintro _ _ ⟨rfl, rfl⟩))
                      all_goals (refine E.OW.pure rfl rfl rfl (E.PV.pick_t rfl rfl rfl) ?_)
                      all_goals (refine E.OW.pure rfl rfl rfl (E.PV.assign rfl rfl) ?_)
                      all_goals (
                        refine E.OW.nil ?_
                        refine E.then_n ?_
                        refine E.CW.ret ?_
                        refine E.KR.one [] Try.results8 rfl rfl ?_
                        exact ⟨by first | rfl | (simp; done) | (simp [*]; done) | (simp; omega), rfl⟩))))))))
end Go.Proofs.Ytbofflmmgokkhaa
