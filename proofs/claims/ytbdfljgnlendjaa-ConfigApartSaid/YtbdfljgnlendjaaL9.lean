/- Walks (printed by gen.py). -/
import Derived.Test.YtbdfljgnlendjaaG14
namespace Go.Proofs.Ytbdfljgnlendjaa
open Go Go.RowKit
set_option linter.unusedSimpArgs false
set_option linter.unusedVariables false

set_option maxRecDepth 100000 in
theorem ConfigApart_ok (g h : E.Cfg) (t : Int) (w0 : World) (hg : g.rd w0 (E.Old w0)) (hh : h.rd w0 (E.Old w0)) (hgf : g.q.fit) (hhf : h.q.fit) :
    Calls Try.prog 13 #[g.v, h.v, .int .i64 t] w0 (E.Post w0 (E.Old w0) fun v Hn => v = .bool true ∧ Hn = []) := by
  obtain ⟨hX1, hX2, hX3, hX4⟩ := id hg
  obtain ⟨hY1, hY2, hY3, hY4⟩ := id hh
  have hgl := E.Cfg.fit_len hgf
  have hhl := E.Cfg.fit_len hhf
  refine E.calls_of (vs := [g.v, h.v, .int .i64 t]) (H := []) Try.func13 Try.ntmps13 rfl rfl (E.HA.start w0) ?_
  refine E.CW.seq ?_
  refine E.CW.region ?_
  refine E.OW.box rfl rfl rfl rfl rfl rfl (fun B1 => ?_)
  refine E.OW.box rfl rfl rfl rfl rfl rfl (fun B2 => ?_)
  refine E.OW.pure rfl rfl rfl (E.PV.assign rfl rfl) ?_
  refine E.OW.nil ?_
  refine E.then_n ?_
  refine E.CW.seq ?_
  refine E.CW.region ?_
  (refine E.OW.call nm45 rfl rfl rfl rfl rfl rfl _ (fun w hw => alive_ok w) ?_; rintro _ _ ⟨rfl, rfl⟩)
  refine E.OW.pure rfl rfl rfl (E.PV.assign rfl rfl) ?_
  refine E.OW.nil ?_
  refine E.then_n ?_
  refine E.CW.seq ?_
  refine E.CW.seq ?_
  refine E.CW.region ?_
  refine E.OW.pure rfl rfl rfl (E.PV.loads (i := 1) is28 rfl rfl rfl rfl) ?_
  (refine E.OW.call nm34 rfl rfl rfl rfl rfl rfl _ (fun w hw => rCk_ok _ w ?_ ?_) ?_; (focus (refine hw.rdC ?_; assumption)); (focus (assumption)); rintro _ _ ⟨rfl, rfl⟩)
  refine E.OW.pure rfl rfl rfl (E.PV.neq rfl rfl rfl) ?_
  refine E.OW.pure rfl rfl rfl (E.PV.move rfl rfl) ?_
  all_goals (refine E.OW.split 16 rfl (fun hc => ?_) (fun hc => ?_) <;> (try simp only [E.b0, E.b1, E.b2, E.b3, E.b4, E.b5, E.b6, E.b7, E.b8, E.b9, E.b10, E.b11, E.b12, E.b13, E.b14, E.b15, E.b16, E.b17, E.b18, E.b19, E.b20, reduceCtorEq] at hc) <;> (try (exfalso; first | assumption | contradiction | omega)))
  all_goals (first | (refine E.OW.off rfl rfl rfl ?_) | (refine E.OW.pure rfl rfl rfl (E.PV.loads (i := 0) is28 rfl rfl rfl rfl) ?_))
  all_goals (first | (refine E.OW.off rfl rfl rfl ?_) | ((refine E.OW.call nm34 rfl rfl rfl rfl rfl rfl _ (fun w hw => rCk_ok _ w ?_ ?_) ?_; (focus (refine hw.rdC ?_; assumption)); (focus (assumption)); rintro _ _ ⟨rfl, rfl⟩)))
  all_goals (first | (refine E.OW.off rfl rfl rfl ?_) | (refine E.OW.pure rfl rfl rfl (E.PV.neq rfl rfl rfl) ?_))
  all_goals (first | (refine E.OW.pure rfl rfl rfl (E.PV.pick_t rfl rfl rfl) ?_) | (refine E.OW.pure rfl rfl rfl (E.PV.pick_f rfl rfl rfl) ?_))
  all_goals (refine E.OW.pure rfl rfl rfl (E.PV.move rfl rfl) ?_)
  all_goals (first | (refine E.OW.put 21 (.bool true) (v := .bool true) rfl rfl ?_) | (refine E.OW.split 21 rfl (fun hc => ?_) (fun hc => ?_) <;> (try simp only [E.b0, E.b1, E.b2, E.b3, E.b4, E.b5, E.b6, E.b7, E.b8, E.b9, E.b10, E.b11, E.b12, E.b13, E.b14, E.b15, E.b16, E.b17, E.b18, E.b19, E.b20, reduceCtorEq] at hc) <;> (try (exfalso; first | assumption | contradiction | omega))))
  all_goals (first | (refine E.OW.off rfl rfl rfl ?_) | (refine E.OW.pure rfl rfl rfl (E.PV.loads (i := 1) is28 rfl rfl rfl rfl) ?_))
  all_goals (first | (refine E.OW.off rfl rfl rfl ?_) | (refine E.OW.pure rfl rfl rfl (E.PV.move rfl rfl) ?_))
  all_goals (first | (refine E.OW.off rfl rfl rfl ?_) | ((refine E.OW.call nm47 rfl rfl rfl rfl rfl rfl _ (fun w hw => rPr_ok _ _ w ?_ ?_) ?_; (focus (refine hw.rdC ?_; assumption)); (focus (assumption)); rintro _ _ ⟨rfl, rfl⟩)))
  all_goals (first | (refine E.OW.off rfl rfl rfl ?_) | (refine E.OW.pure rfl rfl rfl (E.PV.not rfl rfl) ?_))
  all_goals (first | (refine E.OW.pure rfl rfl rfl (E.PV.pick_t rfl rfl rfl) ?_) | (refine E.OW.pure rfl rfl rfl (E.PV.pick_f rfl rfl rfl) ?_))
  all_goals (refine E.OW.pure rfl rfl rfl (E.PV.move rfl rfl) ?_)
  all_goals (first | (refine E.OW.put 27 (.bool true) (v := .bool true) rfl rfl ?_) | (refine E.OW.split 27 rfl (fun hc => ?_) (fun hc => ?_) <;> (try simp only [E.b0, E.b1, E.b2, E.b3, E.b4, E.b5, E.b6, E.b7, E.b8, E.b9, E.b10, E.b11, E.b12, E.b13, E.b14, E.b15, E.b16, E.b17, E.b18, E.b19, E.b20, reduceCtorEq] at hc) <;> (try (exfalso; first | assumption | contradiction | omega))))
  all_goals (first | (refine E.OW.off rfl rfl rfl ?_) | (refine E.OW.pure rfl rfl rfl (E.PV.loads (i := 0) is28 rfl rfl rfl rfl) ?_))
  all_goals (first | (refine E.OW.off rfl rfl rfl ?_) | (refine E.OW.pure rfl rfl rfl (E.PV.move rfl rfl) ?_))
  all_goals (first | (refine E.OW.off rfl rfl rfl ?_) | ((refine E.OW.call nm47 rfl rfl rfl rfl rfl rfl _ (fun w hw => rPr_ok _ _ w ?_ ?_) ?_; (focus (refine hw.rdC ?_; assumption)); (focus (assumption)); rintro _ _ ⟨rfl, rfl⟩)))
  all_goals (first | (refine E.OW.off rfl rfl rfl ?_) | (refine E.OW.pure rfl rfl rfl (E.PV.not rfl rfl) ?_))
  all_goals (first | (refine E.OW.pure rfl rfl rfl (E.PV.pick_t rfl rfl rfl) ?_) | (refine E.OW.pure rfl rfl rfl (E.PV.pick_f rfl rfl rfl) ?_))
  all_goals (
    refine E.OW.nil ?_
    refine E.then_n ?_
    refine E.CW.cond rfl (fun hc => ?_) (fun hc => ?_)
    · simp only [E.b0, E.b1, E.b2, E.b3, E.b4, E.b5, E.b6, E.b7, E.b8, E.b9, E.b10, E.b11, E.b12, E.b13, E.b14, E.b15, E.b16, E.b17, E.b18, E.b19, E.b20, reduceCtorEq] at hc
      all_goals (
        refine E.CW.seq ?_
        refine E.CW.region ?_
        refine E.OW.pure rfl rfl rfl (E.PV.move rfl rfl) ?_
        refine E.OW.pure rfl rfl rfl (E.PV.assign rfl rfl) ?_
        refine E.OW.nil ?_
        refine E.then_n ?_
        refine E.CW.ret ?_
        refine E.then_ret ?_
        refine E.KR.one [] Try.results13 rfl rfl ?_
        exact ⟨rfl, rfl⟩)
    · first | ((cases hc; done)) | (simp only [E.b0, E.b1, E.b2, E.b3, E.b4, E.b5, E.b6, E.b7, E.b8, E.b9, E.b10, E.b11, E.b12, E.b13, E.b14, E.b15, E.b16, E.b17, E.b18, E.b19, E.b20, reduceCtorEq] at hc)
      all_goals (
        refine E.CW.skip ?_
        refine E.then_n ?_
        refine E.CW.seq ?_
        have hz1 : Cf.check g.q = 0 := by first | assumption | omega
        have hz2 : Cf.check h.q = 0 := by first | assumption | omega
        have hp1 : Cf.present g.q.ts t = true := by assumption
        have hp2 : Cf.present h.q.ts t = true := by assumption
        have hb1 := Cf.present_b hp1
        have hb2 := Cf.present_b hp2
        have htl := Cf.teams_len (Cf.check_zero hz1).2.2.1
        rw [E.Cfg.ts_len] at hb1 hb2 htl
        have hvl := Cf.val_len hz1 hz2
        have hgh : g.a = h.a → g.b = h.b → g.l.length = h.l.length := hvl
        have hO1 := Cf.onlyR_yes hz1 hp1
        have hO2 := Cf.onlyR_yes hz2 hp2
        refine E.CW.region ?_
        refine E.OW.pure rfl rfl rfl (E.PV.loads (i := 1) is28 rfl rfl rfl rfl) ?_
        refine E.OW.pure rfl rfl rfl (E.PV.move rfl rfl) ?_
        (refine E.OW.call nm37 rfl rfl rfl rfl rfl rfl _ (fun w hw => On_ok g t w ?_ ?_) ?_; (focus (refine hw.rdC ?_; assumption)); (focus (assumption)); rintro _ _ ⟨gO, rfl, rfl, hgO⟩)
        refine E.OW.pure rfl rfl rfl (E.PV.move rfl rfl) ?_
        refine E.OW.pure rfl rfl rfl (E.PV.extract rfl rfl rfl) ?_
        refine E.OW.pure rfl rfl rfl (E.PV.extract rfl rfl rfl) ?_
        refine E.OW.alloc (in28.zr) rfl rfl rfl rfl rfl (fun B3 => ?_)
        refine E.OW.store (i := 0) in28.size rfl rfl rfl rfl rfl rfl rfl rfl rfl ?_
        refine E.OW.pure rfl rfl rfl (E.PV.assign rfl rfl) ?_
        refine E.OW.nil ?_
        refine E.then_n ?_
        refine E.CW.seq ?_
        refine E.CW.region ?_
        refine E.OW.pure rfl rfl rfl (E.PV.loads (i := 2) is28 rfl rfl rfl rfl) ?_
        refine E.OW.pure rfl rfl rfl (E.PV.move rfl rfl) ?_
        (refine E.OW.call nm37 rfl rfl rfl rfl rfl rfl _ (fun w hw => On_ok h t w ?_ ?_) ?_; (focus (refine hw.rdC ?_; assumption)); (focus (assumption)); rintro _ _ ⟨hO, rfl, rfl, hhO⟩)
        refine E.OW.pure rfl rfl rfl (E.PV.move rfl rfl) ?_
        refine E.OW.pure rfl rfl rfl (E.PV.extract rfl rfl rfl) ?_
        refine E.OW.pure rfl rfl rfl (E.PV.extract rfl rfl rfl) ?_
        refine E.OW.alloc (in28.zr) rfl rfl rfl rfl rfl (fun B4 => ?_)
        refine E.OW.store (i := 0) in28.size rfl rfl rfl rfl rfl rfl rfl rfl rfl ?_
        refine E.OW.pure rfl rfl rfl (E.PV.assign rfl rfl) ?_
        refine E.OW.nil ?_
        refine E.then_n ?_
        refine E.CW.seq ?_
        have hOf : gO.q.fit := by rw [hgO]; exact Cf.onlyR_fit hgf
        have hPf : hO.q.fit := by rw [hhO]; exact Cf.onlyR_fit hhf
        refine E.CW.put 9 (.int .i64 0) rfl (congrArg (fun x : Cf.C × Int => Value.int .i64 x.2) hO1) ?_
        refine E.CW.put 11 (.int .i64 0) rfl (congrArg (fun x : Cf.C × Int => Value.int .i64 x.2) hO2) ?_
        refine E.CW.draw mixed (by kernel_rfl) ?_
        refine E.QW.pure rfl rfl rfl (E.PV.move rfl rfl) ?_
        refine E.QW.pure rfl rfl rfl (E.PV.move rfl rfl) ?_
        all_goals (refine E.QW.put 47 (.bool true) (v := .bool true) rfl rfl ?_)
        all_goals (refine E.QW.pure rfl rfl rfl (E.PV.move rfl rfl) ?_)
        all_goals (refine E.QW.pure rfl rfl rfl (E.PV.eql rfl rfl rfl) ?_)
        all_goals (refine E.QW.pure rfl rfl rfl (E.PV.pick_t rfl rfl rfl) ?_)
        all_goals (refine E.QW.pure rfl rfl rfl (E.PV.move rfl rfl) ?_)
        all_goals (refine E.QW.put 51 (.bool true) (v := .bool true) rfl rfl ?_)
        all_goals (refine E.QW.pure rfl rfl rfl (E.PV.move rfl rfl) ?_)
        all_goals (refine E.QW.pure rfl rfl rfl (E.PV.eql rfl rfl rfl) ?_)
        all_goals (refine E.QW.pure rfl rfl rfl (E.PV.pick_t rfl rfl rfl) ?_)
        all_goals (refine E.QW.pure rfl rfl rfl (E.PV.move rfl rfl) ?_)
        all_goals (refine E.QW.put 55 (.bool true) (v := .bool true) rfl rfl ?_)
        all_goals (refine E.QW.pure rfl rfl rfl (E.PV.loads (i := 2) is28 rfl rfl rfl rfl) ?_)
        all_goals (refine E.QW.pure rfl rfl rfl (E.PV.loads (i := 0) is28 rfl rfl rfl rfl) ?_)
        all_goals ((refine E.QW.call nm19 rfl rfl rfl rfl rfl rfl _ (fun w hw => E.Post.val (Same_ok _ _ w ?_ ?_ ?_ ?_)) ?_; (focus (exact hw.rdcfg (i := 3) rfl)); (focus (exact hw.rdcfg (i := 1) rfl)); (focus (assumption)); (focus (assumption))))
        all_goals (refine E.QW.pure rfl rfl rfl (E.PV.loads (i := 5) is28 rfl rfl rfl rfl) ?_)
        all_goals (refine E.QW.pure rfl rfl rfl (E.PV.loads (i := 4) is28 rfl rfl rfl rfl) ?_)
        all_goals (refine E.QW.pure rfl rfl rfl (E.PV.move rfl rfl) ?_)
        all_goals ((refine E.QW.call nm49 rfl rfl rfl rfl rfl rfl _ (fun w hw => E.Post.val (agree_ok _ _ _ w ?_ ?_ ?_ ?_ ⟨?_, ?_⟩ ?_ ?_ ?_)) ?_; (focus (refine hw.rdC ?_; assumption)); (focus (refine hw.rdC ?_; assumption)); (focus (assumption)); (focus (assumption)); (focus (omega)); (focus (omega)); (focus (omega)); (focus (omega)); (focus (assumption))))
        all_goals (refine E.QW.pure rfl rfl rfl (E.PV.beq Try.underlying4 rfl rfl rfl) ?_)
        all_goals (refine E.QW.pure rfl rfl rfl (E.PV.pick_t rfl rfl rfl) ?_)
        all_goals (refine E.QW.pure rfl rfl rfl (E.PV.assign rfl rfl) ?_)
        all_goals (
          refine E.QW.nil ?_
          refine E.then_n ?_
          refine E.CW.ret ?_
          refine E.KR.one [] Try.results13 rfl rfl ?_
          exact ⟨congrArg Value.bool (by rw [beq_iff_eq, Bool.eq_iff_iff, decide_eq_true_eq, decide_eq_true_eq, hgO, hhO, hO1, hO2]; exact Cf.only_agr hz1 hz2 hp1 hp2), rfl⟩)))
end Go.Proofs.Ytbdfljgnlendjaa
