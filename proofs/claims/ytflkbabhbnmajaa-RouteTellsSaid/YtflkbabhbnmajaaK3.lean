/- Part 3 of the texts behind the laws RouteReaches, RouteSounds, RouteTables, RouteTells, RouteWalks: the logic, plain laws and walks that they need, for any input that these speak of. -/
import Derived.Lib.SliceRun
import Derived.Test.YtflkbabhbnmajaaK2
/- Walks (printed by gen.py). -/
namespace Go.Proofs.Ytflkbabhbnmajaa
open Go Go.RowKit
set_option linter.unusedSimpArgs false
set_option linter.unusedVariables false

set_option maxRecDepth 100000 in
theorem Pr_ok (g : E.Cfg) (t : Int) (w0 : World) (hg : g.rd w0 (E.Old w0)) (hgf : g.q.fit) :
    Calls Try.prog 95 #[g.v, .int .i64 t] w0 (E.Post w0 (E.Old w0) fun v Hn => v = .bool (Cf.present g.q.ts t) ∧ Hn = []) := by
  obtain ⟨hX1, hX2, hX3, hX4⟩ := id hg
  have hgl := E.Cfg.fit_len hgf
  refine E.calls_of (vs := [g.v, .int .i64 t]) (H := []) Try.func95 Try.ntmps95 rfl rfl (E.HA.start w0) ?_
  refine E.CW.seq ?_
  refine E.CW.region ?_
  refine E.OW.box rfl rfl rfl rfl rfl rfl (fun B1 => ?_)
  refine E.OW.pure rfl rfl rfl (E.PV.assign rfl rfl) ?_
  refine E.OW.nil ?_
  refine E.then_n ?_
  refine E.CW.seq ?_
  refine E.CW.region ?_
  refine E.OW.pure rfl rfl rfl (E.PV.move rfl rfl) ?_
  refine E.OW.pure rfl rfl rfl (E.PV.geq rfl rfl rfl) ?_
  refine E.OW.pure rfl rfl rfl (E.PV.move rfl rfl) ?_
  all_goals (refine E.OW.split 7 rfl (fun hc => ?_) (fun hc => ?_) <;> (try simp only [E.b0, E.b1, E.b2, E.b3, E.b4, E.b5, E.b6, E.b7, E.b8, E.b9, E.b10, E.b11, E.b12, E.b13, E.b14, E.b15, E.b16, E.b17, E.b18, E.b19, E.b20, reduceCtorEq] at hc) <;> (try (exfalso; first | assumption | contradiction | omega)))
  all_goals (first | (refine E.OW.off rfl rfl rfl ?_) | (refine E.OW.pure rfl rfl rfl (E.PV.move rfl rfl) ?_))
  all_goals (first | (refine E.OW.off rfl rfl rfl ?_) | (refine E.OW.pure rfl rfl rfl (E.PV.fieldAddr fa28_2 rfl rfl) ?_))
  all_goals (first | (refine E.OW.off rfl rfl rfl ?_) | (refine E.OW.pure rfl rfl rfl (E.PV.load (i := 0) na25 rfl rfl rfl rfl) ?_))
  all_goals (first | (refine E.OW.off rfl rfl rfl ?_) | (refine E.OW.pure rfl rfl rfl (E.PV.len Try.underlying25 rfl rfl) ?_))
  all_goals (first | (refine E.OW.off rfl rfl rfl ?_) | (refine E.OW.pure rfl rfl rfl (E.PV.lss rfl rfl rfl) ?_))
  all_goals (first | (refine E.OW.pure rfl rfl rfl (E.PV.pick_t rfl rfl rfl) ?_) | (refine E.OW.pure rfl rfl rfl (E.PV.pick_f rfl rfl rfl) ?_))
  all_goals (refine E.OW.pure rfl rfl rfl (E.PV.move rfl rfl) ?_)
  all_goals (first | (refine E.OW.put 14 (.bool false) (v := .bool false) rfl rfl ?_) | (refine E.OW.split 14 rfl (fun hc => ?_) (fun hc => ?_) <;> (try simp only [E.b0, E.b1, E.b2, E.b3, E.b4, E.b5, E.b6, E.b7, E.b8, E.b9, E.b10, E.b11, E.b12, E.b13, E.b14, E.b15, E.b16, E.b17, E.b18, E.b19, E.b20, reduceCtorEq] at hc) <;> (try (exfalso; first | assumption | contradiction | omega))))
  all_goals (first | (refine E.OW.off rfl rfl rfl ?_) | (refine E.OW.pure rfl rfl rfl (E.PV.fieldAddr fa28_2 rfl rfl) ?_))
  all_goals (first | (refine E.OW.off rfl rfl rfl ?_) | (refine E.OW.pure rfl rfl rfl (E.PV.load (i := 0) na25 rfl rfl rfl rfl) ?_))
  all_goals (first | (refine E.OW.off rfl rfl rfl ?_) | (refine E.OW.pure rfl rfl rfl (E.PV.move rfl rfl) ?_))
  all_goals (first | (refine E.OW.off rfl rfl rfl ?_) | (refine E.OW.pure rfl rfl rfl (E.PV.indexAddr (E.rdc hX3) Try.underlying25 in79 rfl rfl rfl (E.tn ?_) ?_ ?_ (by decide)) ?_; (focus (omega)); (focus (first | (simp; done) | (simp; omega))); (focus (omega))))
  all_goals (first | (refine E.OW.off rfl rfl rfl ?_) | (refine E.OW.pure rfl rfl rfl (E.PV.load_tm (E.rdc hX3) is79 rfl rfl ?_) ?_; (focus (omega))))
  all_goals (first | (refine E.OW.off rfl rfl rfl ?_) | ((refine E.OW.call nm123 rfl rfl rfl rfl rfl rfl _ (fun w hw => Ab_ok (g.ts.getD t.toNat E.Tm.z) w (hw.rdm (hg.m _ (E.Tm.mem (by omega)))) (E.Cfg.fit_m hgf _ (E.Tm.mem (by omega)))) ?_; rintro _ _ ⟨rfl, rfl⟩)))
  all_goals (first | (refine E.OW.off rfl rfl rfl ?_) | (refine E.OW.pure rfl rfl rfl (E.PV.not rfl rfl) ?_))
  all_goals (first | (refine E.OW.pure rfl rfl rfl (E.PV.pick_t rfl rfl rfl) ?_) | (refine E.OW.pure rfl rfl rfl (E.PV.pick_f rfl rfl rfl) ?_))
  all_goals (refine E.OW.pure rfl rfl rfl (E.PV.assign rfl rfl) ?_)
  all_goals (
    refine E.OW.nil ?_
    refine E.then_n ?_
    refine E.CW.ret ?_
    refine E.KR.one [] Try.results95 rfl rfl ?_
    exact ⟨by rw [E.Cfg.present_eq]; first | (rw [decide_eq_true (show 0 ≤ t by omega), decide_eq_true (show t < (g.ts.length : Int) by omega)]; rfl) | (rw [decide_eq_false (show ¬ 0 ≤ t by omega)]; rfl) | (rw [decide_eq_false (show ¬ t < (g.ts.length : Int) by omega), Bool.and_false]; rfl), rfl⟩)

set_option maxRecDepth 100000 in
theorem rPr_ok (g : E.Cfg) (t : Int) (w0 : World) (hg : g.rd w0 (E.Old w0)) (hgf : g.q.fit) :
    Calls Try.prog 106 #[g.v, .int .i64 t] w0 (E.Post w0 (E.Old w0) fun v Hn => v = .bool (Cf.present g.q.ts t) ∧ Hn = []) := by
  obtain ⟨hX1, hX2, hX3, hX4⟩ := id hg
  have hgl := E.Cfg.fit_len hgf
  refine E.calls_of (vs := [g.v, .int .i64 t]) (H := []) Try.func106 Try.ntmps106 rfl rfl (E.HA.start w0) ?_
  refine E.CW.seq ?_
  refine E.CW.region ?_
  refine E.OW.box rfl rfl rfl rfl rfl rfl (fun B1 => ?_)
  refine E.OW.pure rfl rfl rfl (E.PV.assign rfl rfl) ?_
  refine E.OW.nil ?_
  refine E.then_n ?_
  refine E.CW.seq ?_
  refine E.CW.region ?_
  refine E.OW.pure rfl rfl rfl (E.PV.move rfl rfl) ?_
  refine E.OW.pure rfl rfl rfl (E.PV.geq rfl rfl rfl) ?_
  refine E.OW.pure rfl rfl rfl (E.PV.move rfl rfl) ?_
  all_goals (refine E.OW.split 7 rfl (fun hc => ?_) (fun hc => ?_) <;> (try simp only [E.b0, E.b1, E.b2, E.b3, E.b4, E.b5, E.b6, E.b7, E.b8, E.b9, E.b10, E.b11, E.b12, E.b13, E.b14, E.b15, E.b16, E.b17, E.b18, E.b19, E.b20, reduceCtorEq] at hc) <;> (try (exfalso; first | assumption | contradiction | omega)))
  all_goals (first | (refine E.OW.off rfl rfl rfl ?_) | (refine E.OW.pure rfl rfl rfl (E.PV.move rfl rfl) ?_))
  all_goals (first | (refine E.OW.off rfl rfl rfl ?_) | (refine E.OW.pure rfl rfl rfl (E.PV.fieldAddr fa28_2 rfl rfl) ?_))
  all_goals (first | (refine E.OW.off rfl rfl rfl ?_) | (refine E.OW.pure rfl rfl rfl (E.PV.load (i := 0) na25 rfl rfl rfl rfl) ?_))
  all_goals (first | (refine E.OW.off rfl rfl rfl ?_) | (refine E.OW.pure rfl rfl rfl (E.PV.len Try.underlying25 rfl rfl) ?_))
  all_goals (first | (refine E.OW.off rfl rfl rfl ?_) | (refine E.OW.pure rfl rfl rfl (E.PV.lss rfl rfl rfl) ?_))
  all_goals (first | (refine E.OW.pure rfl rfl rfl (E.PV.pick_t rfl rfl rfl) ?_) | (refine E.OW.pure rfl rfl rfl (E.PV.pick_f rfl rfl rfl) ?_))
  all_goals (refine E.OW.pure rfl rfl rfl (E.PV.move rfl rfl) ?_)
  all_goals (first | (refine E.OW.put 14 (.bool false) (v := .bool false) rfl rfl ?_) | (refine E.OW.split 14 rfl (fun hc => ?_) (fun hc => ?_) <;> (try simp only [E.b0, E.b1, E.b2, E.b3, E.b4, E.b5, E.b6, E.b7, E.b8, E.b9, E.b10, E.b11, E.b12, E.b13, E.b14, E.b15, E.b16, E.b17, E.b18, E.b19, E.b20, reduceCtorEq] at hc) <;> (try (exfalso; first | assumption | contradiction | omega))))
  all_goals (first | (refine E.OW.off rfl rfl rfl ?_) | (refine E.OW.pure rfl rfl rfl (E.PV.fieldAddr fa28_2 rfl rfl) ?_))
  all_goals (first | (refine E.OW.off rfl rfl rfl ?_) | (refine E.OW.pure rfl rfl rfl (E.PV.load (i := 0) na25 rfl rfl rfl rfl) ?_))
  all_goals (first | (refine E.OW.off rfl rfl rfl ?_) | (refine E.OW.pure rfl rfl rfl (E.PV.move rfl rfl) ?_))
  all_goals (first | (refine E.OW.off rfl rfl rfl ?_) | (refine E.OW.pure rfl rfl rfl (E.PV.indexAddr (E.rdc hX3) Try.underlying25 in79 rfl rfl rfl (E.tn ?_) ?_ ?_ (by decide)) ?_; (focus (omega)); (focus (first | (simp; done) | (simp; omega))); (focus (omega))))
  all_goals (first | (refine E.OW.off rfl rfl rfl ?_) | (refine E.OW.pure rfl rfl rfl (E.PV.load_tm (E.rdc hX3) is79 rfl rfl ?_) ?_; (focus (omega))))
  all_goals (first | (refine E.OW.off rfl rfl rfl ?_) | ((refine E.OW.call nm131 rfl rfl rfl rfl rfl rfl _ (fun w hw => rAb_ok (g.ts.getD t.toNat E.Tm.z) w (hw.rdm (hg.m _ (E.Tm.mem (by omega)))) (E.Cfg.fit_m hgf _ (E.Tm.mem (by omega)))) ?_; rintro _ _ ⟨rfl, rfl⟩)))
  all_goals (first | (refine E.OW.off rfl rfl rfl ?_) | (refine E.OW.pure rfl rfl rfl (E.PV.not rfl rfl) ?_))
  all_goals (first | (refine E.OW.pure rfl rfl rfl (E.PV.pick_t rfl rfl rfl) ?_) | (refine E.OW.pure rfl rfl rfl (E.PV.pick_f rfl rfl rfl) ?_))
  all_goals (refine E.OW.pure rfl rfl rfl (E.PV.assign rfl rfl) ?_)
  all_goals (
    refine E.OW.nil ?_
    refine E.then_n ?_
    refine E.CW.ret ?_
    refine E.KR.one [] Try.results106 rfl rfl ?_
    exact ⟨by rw [E.Cfg.present_eq]; first | (rw [decide_eq_true (show 0 ≤ t by omega), decide_eq_true (show t < (g.ts.length : Int) by omega)]; rfl) | (rw [decide_eq_false (show ¬ 0 ≤ t by omega)]; rfl) | (rw [decide_eq_false (show ¬ t < (g.ts.length : Int) by omega), Bool.and_false]; rfl), rfl⟩)

set_option maxRecDepth 100000 in
theorem Bl_ok (g : E.Cfg) (x : UInt8) (w0 : World) (hg : g.rd w0 (E.Old w0)) (hgf : g.q.fit) :
    Calls Try.prog 145 #[g.v, .int .u8 (x.toNat : Int)] w0 (E.Post w0 (E.Old w0) fun v Hn => v = .bool (Cf.belongs g.q.ts x) ∧ Hn = []) := by
  obtain ⟨hX1, hX2, hX3, hX4⟩ := id hg
  have hgl := E.Cfg.fit_len hgf
  have hu := x.toNat_lt
  refine E.calls_of (vs := [g.v, .int .u8 (x.toNat : Int)]) (H := []) Try.func145 Try.ntmps145 rfl rfl (E.HA.start w0) ?_
  refine E.CW.seq ?_
  refine E.CW.region ?_
  refine E.OW.box rfl rfl rfl rfl rfl rfl (fun B1 => ?_)
  refine E.OW.pure rfl rfl rfl (E.PV.assign rfl rfl) ?_
  refine E.OW.nil ?_
  refine E.then_n ?_
  refine E.CW.seq ?_
  refine E.CW.region ?_
  refine E.OW.pure rfl rfl rfl (E.PV.move rfl rfl) ?_
  refine E.OW.pure rfl rfl rfl (E.PV.eql rfl rfl rfl) ?_
  refine E.OW.pure rfl rfl rfl (E.PV.move rfl rfl) ?_
  all_goals (refine E.OW.split 7 rfl (fun hc => ?_) (fun hc => ?_) <;> (try simp only [E.b0, E.b1, E.b2, E.b3, E.b4, E.b5, E.b6, E.b7, E.b8, E.b9, E.b10, E.b11, E.b12, E.b13, E.b14, E.b15, E.b16, E.b17, E.b18, E.b19, E.b20, reduceCtorEq] at hc) <;> (try (exfalso; first | assumption | contradiction | omega)))
  all_goals (first | (refine E.OW.off rfl rfl rfl ?_) | (refine E.OW.pure rfl rfl rfl (E.PV.move rfl rfl) ?_))
  all_goals (first | (refine E.OW.off rfl rfl rfl ?_) | (refine E.OW.pure rfl rfl rfl (E.PV.eql rfl rfl rfl) ?_))
  all_goals (first | (refine E.OW.pure rfl rfl rfl (E.PV.pick_t rfl rfl rfl) ?_) | (refine E.OW.pure rfl rfl rfl (E.PV.pick_f rfl rfl rfl) ?_))
  all_goals (refine E.OW.pure rfl rfl rfl (E.PV.move rfl rfl) ?_)
  all_goals (first | (refine E.OW.put 11 (.bool true) (v := .bool true) rfl rfl ?_) | (refine E.OW.split 11 rfl (fun hc => ?_) (fun hc => ?_) <;> (try simp only [E.b0, E.b1, E.b2, E.b3, E.b4, E.b5, E.b6, E.b7, E.b8, E.b9, E.b10, E.b11, E.b12, E.b13, E.b14, E.b15, E.b16, E.b17, E.b18, E.b19, E.b20, reduceCtorEq] at hc) <;> (try (exfalso; first | assumption | contradiction | omega))))
  all_goals (first | (refine E.OW.off rfl rfl rfl ?_) | (refine E.OW.pure rfl rfl rfl (E.PV.loads (i := 0) is28 rfl rfl rfl rfl) ?_))
  all_goals (first | (refine E.OW.off rfl rfl rfl ?_) | (refine E.OW.pure rfl rfl rfl (E.PV.move rfl rfl) ?_))
  all_goals (first | (refine E.OW.off rfl rfl rfl ?_) | (refine E.OW.pure rfl rfl rfl (E.PV.conv_in Try.underlying5 Try.underlying3 rfl rfl ?_) ?_; (focus (first | exact E.wrap_u8 _ | (simp only [IntKind.wrap_i64, IntKind.wrap_u64, IntKind.wrap_u8]; omega)))))
  all_goals (first | (refine E.OW.off rfl rfl rfl ?_) | (refine E.OW.pure rfl rfl rfl (E.PV.sub_i64 rfl rfl rfl ?_) ?_; (focus (omega))))
  all_goals (first | (refine E.OW.off rfl rfl rfl ?_) | ((refine E.OW.call nm106 rfl rfl rfl rfl rfl rfl _ (fun w hw => rPr_ok _ _ w ?_ ?_) ?_; (focus (refine hw.rdC ?_; assumption)); (focus (assumption)); rintro _ _ ⟨rfl, rfl⟩)))
  all_goals (first | (refine E.OW.pure rfl rfl rfl (E.PV.pick_t rfl rfl rfl) ?_) | (refine E.OW.pure rfl rfl rfl (E.PV.pick_f rfl rfl rfl) ?_))
  all_goals (refine E.OW.pure rfl rfl rfl (E.PV.assign rfl rfl) ?_)
  all_goals (
    refine E.OW.nil ?_
    refine E.then_n ?_
    refine E.CW.ret ?_
    refine E.KR.one [] Try.results145 rfl rfl ?_
    exact ⟨by unfold Cf.belongs; first | (rw [decide_eq_true (show (x.toNat : Int) = 0 by omega)]; rfl) | (rw [decide_eq_true (show (x.toNat : Int) = 255 by omega), Bool.or_true]; rfl) | (rw [decide_eq_false (show ¬ (x.toNat : Int) = 0 by omega), decide_eq_false (show ¬ (x.toNat : Int) = 255 by omega)]; rfl), rfl⟩)

set_option maxRecDepth 100000 in
theorem St1_ok (g : E.Cfg) (B : Nat) (x : UInt8) (w0 : World) (hB : E.Rd w0 (E.Old w0) (some ⟨B, 0, none⟩) g.cells) (hg : g.rd w0 (E.Old w0)) (hgf : g.q.fit) :
    Calls Try.prog 141 #[.int .u8 (x.toNat : Int), .pointer (some ⟨B, 0, none⟩)] w0 (E.Post w0 (E.Old w0) fun v Hn => v = .bool (!Cf.belongs g.q.ts x) ∧ Hn = []) := by
  obtain ⟨hX1, hX2, hX3, hX4⟩ := id hg
  have hgl := E.Cfg.fit_len hgf
  have hu := x.toNat_lt
  refine E.calls_of (vs := [.int .u8 (x.toNat : Int), .pointer (some ⟨B, 0, none⟩)]) (H := []) Try.func141 Try.ntmps141 rfl rfl (E.HA.start w0) ?_
  refine E.CW.seq ?_
  refine E.CW.region ?_
  refine E.OW.pure rfl rfl rfl (E.PV.assign rfl rfl) ?_
  refine E.OW.nil ?_
  refine E.then_n ?_
  refine E.CW.seq ?_
  refine E.CW.region ?_
  refine E.OW.pure rfl rfl rfl (E.PV.move rfl rfl) ?_
  refine E.OW.pure rfl rfl rfl (E.PV.neq rfl rfl rfl) ?_
  refine E.OW.pure rfl rfl rfl (E.PV.move rfl rfl) ?_
  all_goals (refine E.OW.split 6 rfl (fun hc => ?_) (fun hc => ?_) <;> (try simp only [E.b0, E.b1, E.b2, E.b3, E.b4, E.b5, E.b6, E.b7, E.b8, E.b9, E.b10, E.b11, E.b12, E.b13, E.b14, E.b15, E.b16, E.b17, E.b18, E.b19, E.b20, reduceCtorEq] at hc) <;> (try (exfalso; first | assumption | contradiction | omega)))
  all_goals (first | (refine E.OW.off rfl rfl rfl ?_) | (refine E.OW.pure rfl rfl rfl (E.PV.move rfl rfl) ?_))
  all_goals (first | (refine E.OW.off rfl rfl rfl ?_) | (refine E.OW.pure rfl rfl rfl (E.PV.neq rfl rfl rfl) ?_))
  all_goals (first | (refine E.OW.pure rfl rfl rfl (E.PV.pick_t rfl rfl rfl) ?_) | (refine E.OW.pure rfl rfl rfl (E.PV.pick_f rfl rfl rfl) ?_))
  all_goals (refine E.OW.pure rfl rfl rfl (E.PV.move rfl rfl) ?_)
  all_goals (first | (refine E.OW.put 10 (.bool false) (v := .bool false) rfl rfl ?_) | (refine E.OW.split 10 rfl (fun hc => ?_) (fun hc => ?_) <;> (try simp only [E.b0, E.b1, E.b2, E.b3, E.b4, E.b5, E.b6, E.b7, E.b8, E.b9, E.b10, E.b11, E.b12, E.b13, E.b14, E.b15, E.b16, E.b17, E.b18, E.b19, E.b20, reduceCtorEq] at hc) <;> (try (exfalso; first | assumption | contradiction | omega))))
  all_goals (first | (refine E.OW.off rfl rfl rfl ?_) | (refine E.OW.pure rfl rfl rfl (E.PV.loads_cfg (g := g) (E.rdc hB) is28 rfl rfl) ?_))
  all_goals (first | (refine E.OW.off rfl rfl rfl ?_) | (refine E.OW.pure rfl rfl rfl (E.PV.move rfl rfl) ?_))
  all_goals (first | (refine E.OW.off rfl rfl rfl ?_) | (refine E.OW.pure rfl rfl rfl (E.PV.conv_in Try.underlying5 Try.underlying3 rfl rfl ?_) ?_; (focus (first | exact E.wrap_u8 _ | (simp only [IntKind.wrap_i64, IntKind.wrap_u64, IntKind.wrap_u8]; omega)))))
  all_goals (first | (refine E.OW.off rfl rfl rfl ?_) | (refine E.OW.pure rfl rfl rfl (E.PV.sub_i64 rfl rfl rfl ?_) ?_; (focus (omega))))
  all_goals (first | (refine E.OW.off rfl rfl rfl ?_) | ((refine E.OW.call nm95 rfl rfl rfl rfl rfl rfl _ (fun w hw => Pr_ok _ _ w ?_ ?_) ?_; (focus (refine hw.rdC ?_; assumption)); (focus (assumption)); rintro _ _ ⟨rfl, rfl⟩)))
  all_goals (first | (refine E.OW.off rfl rfl rfl ?_) | (refine E.OW.pure rfl rfl rfl (E.PV.not rfl rfl) ?_))
  all_goals (first | (refine E.OW.pure rfl rfl rfl (E.PV.pick_t rfl rfl rfl) ?_) | (refine E.OW.pure rfl rfl rfl (E.PV.pick_f rfl rfl rfl) ?_))
  all_goals (refine E.OW.pure rfl rfl rfl (E.PV.assign rfl rfl) ?_)
  all_goals (
    refine E.OW.nil ?_
    refine E.then_n ?_
    refine E.CW.ret ?_
    refine E.KR.one [] Try.results141 rfl rfl ?_
    exact ⟨by unfold Cf.belongs; first | (rw [decide_eq_true (show (x.toNat : Int) = 0 by omega)]; rfl) | (rw [decide_eq_true (show (x.toNat : Int) = 255 by omega), Bool.or_true]; rfl) | (rw [decide_eq_false (show ¬ (x.toNat : Int) = 0 by omega), decide_eq_false (show ¬ (x.toNat : Int) = 255 by omega)]; rfl), rfl⟩)

set_option maxRecDepth 100000 in
theorem Str_ok (g : E.Cfg) (w0 : World) :
    Calls Try.prog 119 #[g.v] w0 (E.Post w0 (E.Old w0) fun v Hn => ∃ B : Nat, v = .func (.func 141) #[] #[.pointer (some ⟨B, 0, none⟩)] ∧ Hn = [E.HP.blk B 28 g.cells]) := by
  refine E.calls_of (vs := [g.v]) (H := []) Try.func119 Try.ntmps119 rfl rfl (E.HA.start w0) ?_
  refine E.CW.seq ?_
  refine E.CW.region ?_
  refine E.OW.box rfl rfl rfl rfl rfl rfl (fun B1 => ?_)
  refine E.OW.pure rfl rfl rfl (E.PV.assign rfl rfl) ?_
  refine E.OW.nil ?_
  refine E.then_n ?_
  refine E.CW.seq ?_
  refine E.CW.region ?_
  refine E.OW.pure rfl rfl rfl (E.PV.makeFunc (f := .func 141) (fs := []) (cs := [.tmp 1]) rfl rfl rfl) ?_
  refine E.OW.pure rfl rfl rfl (E.PV.assign rfl rfl) ?_
  refine E.OW.nil ?_
  refine E.then_n ?_
  refine E.CW.ret ?_
  refine E.KR.one [0] Try.results119 rfl rfl ?_
  exact ⟨_, rfl, rfl⟩

set_option maxRecDepth 100000 in
theorem Tn_ok (g : E.Cfg) (w0 : World) (hg : g.rd w0 (E.Old w0)) (hgf : g.q.fit) :
    Calls Try.prog 98 #[g.v] w0 (E.Post w0 (E.Old w0) fun v Hn => ∃ A2 c2, v = .slice A2 (Cf.tenants g.q.ts g.ts.length).length c2 ∧ Hn = [E.HP.row 3 1 A2 (Cf.tenants g.q.ts g.ts.length).length c2 (E.ints (Cf.tenants g.q.ts g.ts.length))]) := by
  obtain ⟨hX1, hX2, hX3, hX4⟩ := id hg
  have hgl := E.Cfg.fit_len hgf
  refine E.calls_of (vs := [g.v]) (H := []) Try.func98 Try.ntmps98 rfl rfl (E.HA.start w0) ?_
  refine E.CW.seq ?_
  refine E.CW.region ?_
  refine E.OW.box rfl rfl rfl rfl rfl rfl (fun B1 => ?_)
  refine E.OW.pure rfl rfl rfl (E.PV.assign rfl rfl) ?_
  refine E.OW.nil ?_
  refine E.then_n ?_
  refine E.CW.seq ?_
  refine E.CW.region ?_
  refine E.OW.pure rfl rfl rfl (E.PV.assign rfl rfl) ?_
  refine E.OW.nil ?_
  refine E.then_n ?_
  refine E.CW.seq ?_
  refine E.CW.seq ?_
  refine E.CW.nilrow 3 1 ?_
  refine E.CW.region ?_
  refine E.OW.pure rfl rfl rfl (E.PV.fieldAddr fa28_2 rfl rfl) ?_
  refine E.OW.pure rfl rfl rfl (E.PV.load (i := 1) na25 rfl rfl rfl rfl) ?_
  refine E.OW.pure rfl rfl rfl (E.PV.len Try.underlying25 rfl rfl) ?_
  refine E.OW.pure rfl rfl rfl (E.PV.move rfl rfl) ?_
  refine E.OW.nil ?_
  refine E.then_n ?_
  refine E.CW.block ?_
  refine E.CW.loopk [1, 7] 1 rfl rfl (fun mm mods Hm => ∃ k : Nat, ∃ D : Option Addr, ∃ e : Nat, mm = g.ts.length - k ∧ mods = [(8, .int .i64 k), (3, .slice D (Cf.tenants g.q.ts k).length e)] ∧ Hm = [E.HP.row 3 1 D (Cf.tenants g.q.ts k).length e (E.ints (Cf.tenants g.q.ts k))] ∧ k ≤ g.ts.length) (g.ts.length) ?_ ?_
  · exact ⟨[(8, _), (3, _)], (by repeat (first | exact E.cov_nil | refine ⟨rfl, ?_⟩)), 0, none, 0, rfl, rfl, rfl, by omega⟩
  · rintro _ _ _ ⟨k, D, e, rfl, rfl, rfl, hk⟩
    have htl := Cf.tenants_len g.q.ts k
    refine E.CW.seq ?_
    refine E.CW.region ?_
    refine E.OW.pure rfl rfl rfl (E.PV.lss rfl rfl rfl) ?_
    refine E.OW.nil ?_
    refine E.then_n ?_
    refine E.CW.seq ?_
    refine E.CW.cond rfl (fun hc => ?_) (fun hc => ?_)
    · simp only [E.b0, E.b1, E.b2, E.b3, E.b4, E.b5, E.b6, E.b7, E.b8, E.b9, E.b10, E.b11, E.b12, E.b13, E.b14, E.b15, E.b16, E.b17, E.b18, E.b19, E.b20, reduceCtorEq] at hc
      all_goals (
        refine E.CW.skip ?_
        refine E.then_n ?_
        refine E.CW.seq ?_
        refine E.CW.block ?_
        refine E.CW.seq ?_
        refine E.CW.region ?_
        refine E.OW.pure rfl rfl rfl (E.PV.move rfl rfl) ?_
        refine E.OW.pure rfl rfl rfl (E.PV.assign rfl rfl) ?_
        refine E.OW.nil ?_
        refine E.then_n ?_
        refine E.CW.seq ?_
        refine E.CW.region ?_
        refine E.OW.pure rfl rfl rfl (E.PV.loads (i := 1) is28 rfl rfl rfl rfl) ?_
        refine E.OW.pure rfl rfl rfl (E.PV.move rfl rfl) ?_
        (refine E.OW.call nm95 rfl rfl rfl rfl rfl rfl _ (fun w hw => Pr_ok _ _ w ?_ ?_) ?_; (focus (refine hw.rdC ?_; assumption)); (focus (assumption)); rintro _ _ ⟨rfl, rfl⟩)
        refine E.OW.nil ?_
        refine E.then_n ?_
        refine E.CW.cond rfl (fun hc => ?_) (fun hc => ?_)
        · skip
          all_goals (
            refine E.CW.region ?_
            refine E.OW.pure rfl rfl rfl (E.PV.move rfl rfl) ?_
            refine E.OW.pure rfl rfl rfl (E.PV.move rfl rfl) ?_
            refine E.OW.buildSlice (Et := 3) (sz := 1) (ps := [(0, .tmp 15)]) rfl rfl rfl rfl rfl (by simp) (by unfold maxLen; omega) (fun w => bsl31_1_0 _ w) (fun A2 => ?_)
            refine E.OW.app_int1 (j := 0) (i := 0) Try.underlying31 in3 rfl rfl rfl rfl rfl rfl rfl rfl rfl rfl ?_ (fun A3 c3 => ?_); (focus ((first | omega | (simp only [List.length_append, List.length_cons, List.length_nil] at *; omega) | (unfold maxLen at *; omega))))
            refine E.OW.pure rfl rfl rfl (E.PV.assign rfl rfl) ?_
            refine E.OW.nil ?_
            refine E.blk_n ?_
            refine E.then_n ?_
            refine E.CW.region ?_
            refine E.OW.pure rfl rfl rfl (E.PV.add_i64 rfl rfl rfl ?_) ?_; (focus (omega))
            refine E.OW.pure rfl rfl rfl (E.PV.move rfl rfl) ?_
            refine E.OW.nil ?_
            refine E.then_nf ?_
            refine ⟨_, [(8, _), (3, _)], [0, 0], _, ?_, by repeat (first | exact E.cov_nil | refine ⟨rfl, ?_⟩), rfl, k + 1, _, _, rfl, by rw [Cf.tenants_yes (by assumption)]; rfl, by rw [Cf.tenants_yes (by assumption)], by omega⟩
            omega)
        · skip
          all_goals (
            refine E.CW.skip ?_
            refine E.blk_n ?_
            refine E.then_n ?_
            refine E.CW.region ?_
            refine E.OW.pure rfl rfl rfl (E.PV.add_i64 rfl rfl rfl ?_) ?_; (focus (omega))
            refine E.OW.pure rfl rfl rfl (E.PV.move rfl rfl) ?_
            refine E.OW.nil ?_
            refine E.then_nf ?_
            refine ⟨_, [(8, _), (3, _)], [0, 0], _, ?_, by repeat (first | exact E.cov_nil | refine ⟨rfl, ?_⟩), rfl, k + 1, D, e, rfl, by rw [Cf.tenants_no (by assumption)]; rfl, by rw [Cf.tenants_no (by assumption)], by omega⟩
            omega))
    · simp only [E.b0, E.b1, E.b2, E.b3, E.b4, E.b5, E.b6, E.b7, E.b8, E.b9, E.b10, E.b11, E.b12, E.b13, E.b14, E.b15, E.b16, E.b17, E.b18, E.b19, E.b20, reduceCtorEq] at hc
      all_goals (
        refine E.CW.exit ?_
        refine E.then_x ?_
        refine E.then_x ?_
        refine E.blk_eq ?_
        refine E.then_n ?_
        refine E.CW.seq ?_
        refine E.CW.region ?_
        refine E.OW.pure rfl rfl rfl (E.PV.move rfl rfl) ?_
        refine E.OW.pure rfl rfl rfl (E.PV.assign rfl rfl) ?_
        refine E.OW.nil ?_
        refine E.then_n ?_
        refine E.CW.ret ?_
        refine E.KR.one [0] Try.results98 rfl rfl ?_
        obtain rfl : k = g.ts.length := by omega
        exact ⟨_, _, rfl, rfl⟩)

set_option maxRecDepth 100000 in
theorem Ck_ok (g : E.Cfg) (w0 : World) (hg : g.rd w0 (E.Old w0)) (hgf : g.q.fit) :
    Calls Try.prog 87 #[g.v] w0 (E.Post w0 (E.Old w0) fun v Hn => v = .int .i64 (Cf.check g.q) ∧ Hn = []) := by
  obtain ⟨hX1, hX2, hX3, hX4⟩ := id hg
  have hgl := E.Cfg.fit_len hgf
  refine E.calls_of (vs := [g.v]) (H := []) Try.func87 Try.ntmps87 rfl rfl (E.HA.start w0) ?_
  refine E.CW.seq ?_
  refine E.CW.region ?_
  refine E.OW.box rfl rfl rfl rfl rfl rfl (fun B1 => ?_)
  refine E.OW.pure rfl rfl rfl (E.PV.assign rfl rfl) ?_
  refine E.OW.nil ?_
  refine E.then_n ?_
  refine E.CW.seq ?_
  refine E.CW.seq ?_
  refine E.CW.region ?_
  refine E.OW.pure rfl rfl rfl (E.PV.fieldAddr fa28_0 rfl rfl) ?_
  refine E.OW.pure rfl rfl rfl (E.PV.loads (i := 0) is24 rfl rfl rfl rfl) ?_
  (refine E.OW.call nm116 rfl rfl rfl rfl rfl rfl _ (fun w hw => Check_ok _ _ _ _ g.l w ?_ ?_) ?_; (focus (omega)); (focus (refine hw.rd ?_; assumption)); rintro _ _ ⟨rfl, rfl⟩)
  refine E.OW.pure rfl rfl rfl (E.PV.assign rfl rfl) ?_
  refine E.OW.nil ?_
  refine E.then_n ?_
  refine E.CW.seq ?_
  refine E.CW.region ?_
  refine E.OW.pure rfl rfl rfl (E.PV.move rfl rfl) ?_
  refine E.OW.pure rfl rfl rfl (E.PV.neq rfl rfl rfl) ?_
  refine E.OW.nil ?_
  refine E.then_n ?_
  refine E.CW.cond rfl (fun hc => ?_) (fun hc => ?_)
  · simp only [E.b0, E.b1, E.b2, E.b3, E.b4, E.b5, E.b6, E.b7, E.b8, E.b9, E.b10, E.b11, E.b12, E.b13, E.b14, E.b15, E.b16, E.b17, E.b18, E.b19, E.b20, reduceCtorEq] at hc
    all_goals (
      refine E.CW.seq ?_
      refine E.CW.region ?_
      refine E.OW.pure rfl rfl rfl (E.PV.move rfl rfl) ?_
      refine E.OW.pure rfl rfl rfl (E.PV.assign rfl rfl) ?_
      refine E.OW.nil ?_
      refine E.then_n ?_
      refine E.CW.ret ?_
      refine E.then_ret ?_
      refine E.KR.one [] Try.results87 rfl rfl ?_
      exact ⟨congrArg (Value.int .i64) (Cf.check_f (g := g.q) (by assumption)).symm, rfl⟩)
  · simp only [E.b0, E.b1, E.b2, E.b3, E.b4, E.b5, E.b6, E.b7, E.b8, E.b9, E.b10, E.b11, E.b12, E.b13, E.b14, E.b15, E.b16, E.b17, E.b18, E.b19, E.b20, reduceCtorEq] at hc
    all_goals (
      refine E.CW.skip ?_
      refine E.then_n ?_
      refine E.CW.seq ?_
      refine E.CW.seq ?_
      have hv : Fl.validF g.a g.b g.l = true := Fl.checkF_zero.1 (by assumption)
      refine E.CW.region ?_
      refine E.OW.pure rfl rfl rfl (E.PV.fieldAddr fa28_1 rfl rfl) ?_
      refine E.OW.pure rfl rfl rfl (E.PV.load (i := 0) na22 rfl rfl rfl rfl) ?_
      (refine E.OW.call nm117 rfl rfl rfl rfl rfl rfl _ (fun w hw => CheckSlices_ok _ _ g.s w ?_ ?_) ?_; (focus (omega)); (focus (refine hw.rd ?_; assumption)); rintro _ _ ⟨rfl, rfl⟩)
      refine E.OW.pure rfl rfl rfl (E.PV.assign rfl rfl) ?_
      refine E.OW.nil ?_
      refine E.then_n ?_
      refine E.CW.seq ?_
      refine E.CW.region ?_
      refine E.OW.pure rfl rfl rfl (E.PV.move rfl rfl) ?_
      refine E.OW.pure rfl rfl rfl (E.PV.neq rfl rfl rfl) ?_
      refine E.OW.nil ?_
      refine E.then_n ?_
      refine E.CW.cond rfl (fun hc => ?_) (fun hc => ?_)
      · simp only [E.b0, E.b1, E.b2, E.b3, E.b4, E.b5, E.b6, E.b7, E.b8, E.b9, E.b10, E.b11, E.b12, E.b13, E.b14, E.b15, E.b16, E.b17, E.b18, E.b19, E.b20, reduceCtorEq] at hc
        all_goals (
          refine E.CW.seq ?_
          refine E.CW.region ?_
          refine E.OW.pure rfl rfl rfl (E.PV.move rfl rfl) ?_
          refine E.OW.pure rfl rfl rfl (E.PV.assign rfl rfl) ?_
          refine E.OW.nil ?_
          refine E.then_n ?_
          refine E.CW.ret ?_
          refine E.then_ret ?_
          refine E.KR.one [] Try.results87 rfl rfl ?_
          exact ⟨congrArg (Value.int .i64) (Cf.check_s (g := g.q) hv (by assumption)).symm, rfl⟩)
      · simp only [E.b0, E.b1, E.b2, E.b3, E.b4, E.b5, E.b6, E.b7, E.b8, E.b9, E.b10, E.b11, E.b12, E.b13, E.b14, E.b15, E.b16, E.b17, E.b18, E.b19, E.b20, reduceCtorEq] at hc
        all_goals (
          refine E.CW.skip ?_
          refine E.then_n ?_
          refine E.CW.seq ?_
          refine E.CW.seq ?_
          have hs := Cf.validS_of (s := g.s) (by assumption)
          have htn := E.Cfg.ts_len g
          refine E.CW.region ?_
          refine E.OW.pure rfl rfl rfl (E.PV.fieldAddr fa28_2 rfl rfl) ?_
          refine E.OW.pure rfl rfl rfl (E.PV.load (i := 0) na25 rfl rfl rfl rfl) ?_
          refine E.OW.pure rfl rfl rfl (E.PV.len Try.underlying25 rfl rfl) ?_
          refine E.OW.pure rfl rfl rfl (E.PV.gtr rfl rfl rfl) ?_
          refine E.OW.pure rfl rfl rfl (E.PV.move rfl rfl) ?_
          all_goals (refine E.OW.split 24 rfl (fun hc => ?_) (fun hc => ?_) <;> (try simp only [E.b0, E.b1, E.b2, E.b3, E.b4, E.b5, E.b6, E.b7, E.b8, E.b9, E.b10, E.b11, E.b12, E.b13, E.b14, E.b15, E.b16, E.b17, E.b18, E.b19, E.b20, reduceCtorEq] at hc) <;> (try (exfalso; first | assumption | contradiction | omega)))
          all_goals (first | (refine E.OW.off rfl rfl rfl ?_) | (refine E.OW.pure rfl rfl rfl (E.PV.loads (i := 0) is28 rfl rfl rfl rfl) ?_))
          all_goals (first | (refine E.OW.off rfl rfl rfl ?_) | ((refine E.OW.call nm98 rfl rfl rfl rfl rfl rfl _ (fun w hw => Tn_ok _ w ?_ ?_) ?_; (focus (refine hw.rdC ?_; assumption)); (focus (assumption)); rintro _ _ ⟨AT, cT, rfl, rfl⟩)))
          all_goals (first | (refine E.OW.off rfl rfl rfl ?_) | (refine E.OW.pure rfl rfl rfl (E.PV.len Try.underlying31 rfl rfl) ?_))
          all_goals (first | (refine E.OW.off rfl rfl rfl ?_) | (refine E.OW.pure rfl rfl rfl (E.PV.eql rfl rfl rfl) ?_))
          all_goals (first | (refine E.OW.pure rfl rfl rfl (E.PV.pick_t rfl rfl rfl) ?_) | (refine E.OW.pure rfl rfl rfl (E.PV.pick_f rfl rfl rfl) ?_))
          all_goals (
            refine E.OW.nil ?_
            refine E.then_n ?_
            refine E.CW.cond rfl (fun hc => ?_) (fun hc => ?_)
            · simp only [E.b0, E.b1, E.b2, E.b3, E.b4, E.b5, E.b6, E.b7, E.b8, E.b9, E.b10, E.b11, E.b12, E.b13, E.b14, E.b15, E.b16, E.b17, E.b18, E.b19, E.b20, reduceCtorEq] at hc
              all_goals (
                refine E.CW.seq ?_
                refine E.CW.region ?_
                refine E.OW.pure rfl rfl rfl (E.PV.assign rfl rfl) ?_
                refine E.OW.nil ?_
                refine E.then_n ?_
                refine E.CW.ret ?_
                refine E.then_ret ?_
                refine E.KR.one [] Try.results87 rfl rfl ?_
                exact ⟨congrArg (Value.int .i64) (Cf.check_t (g := g.q) hv hs (by first | exact Cf.teams_many (by rw [htn]; assumption) | exact Cf.teams_none (by rw [htn]; assumption))).symm, rfl⟩)
            · first | ((cases hc; done)) | (simp only [E.b0, E.b1, E.b2, E.b3, E.b4, E.b5, E.b6, E.b7, E.b8, E.b9, E.b10, E.b11, E.b12, E.b13, E.b14, E.b15, E.b16, E.b17, E.b18, E.b19, E.b20, reduceCtorEq] at hc)
              all_goals (
                refine E.CW.skip ?_
                refine E.then_n ?_
                refine E.CW.seq ?_
                refine E.CW.seq ?_
                have hten : ¬ ((Cf.tenants g.q.ts g.ts.length).length : Int) = 0 := by assumption
                refine E.CW.region ?_
                refine E.OW.pure rfl rfl rfl (E.PV.fieldAddr fa28_2 rfl rfl) ?_
                refine E.OW.pure rfl rfl rfl (E.PV.load (i := 1) na25 rfl rfl rfl rfl) ?_
                refine E.OW.pure rfl rfl rfl (E.PV.len Try.underlying25 rfl rfl) ?_
                refine E.OW.pure rfl rfl rfl (E.PV.move rfl rfl) ?_
                refine E.OW.nil ?_
                refine E.then_n ?_
                refine E.CW.block ?_
                refine E.CW.loopk [1, 31, 32] 0 rfl rfl (fun mm mods Hm => ∃ k : Nat, mm = g.ts.length - k ∧ mods = [(33, .int .i64 k)] ∧ Hm = [] ∧ (k ≤ g.ts.length ∧ ∀ j, j < k → Cf.teamOk g.q j = true)) (g.ts.length) ?_ ?_
                · exact ⟨[(33, _)], (by repeat (first | exact E.cov_nil | refine ⟨rfl, ?_⟩)), 0, rfl, rfl, rfl, by omega, fun j hj => by omega⟩
                · rintro _ _ _ ⟨k, rfl, rfl, rfl, hk, hI⟩
                  refine E.CW.seq ?_
                  refine E.CW.region ?_
                  refine E.OW.pure rfl rfl rfl (E.PV.lss rfl rfl rfl) ?_
                  refine E.OW.nil ?_
                  refine E.then_n ?_
                  refine E.CW.seq ?_
                  refine E.CW.cond rfl (fun hc => ?_) (fun hc => ?_)
                  · simp only [E.b0, E.b1, E.b2, E.b3, E.b4, E.b5, E.b6, E.b7, E.b8, E.b9, E.b10, E.b11, E.b12, E.b13, E.b14, E.b15, E.b16, E.b17, E.b18, E.b19, E.b20, reduceCtorEq] at hc
                    all_goals (
                      refine E.CW.skip ?_
                      refine E.then_n ?_
                      refine E.CW.seq ?_
                      refine E.CW.block ?_
                      refine E.CW.seq ?_
                      refine E.CW.region ?_
                      refine E.OW.pure rfl rfl rfl (E.PV.move rfl rfl) ?_
                      refine E.OW.pure rfl rfl rfl (E.PV.indexAddr (E.rdc hX3) Try.underlying25 in79 rfl rfl rfl rfl ?_ ?_ (by decide)) ?_; (focus (first | (simp; done) | (simp; omega))); (focus (omega))
                      refine E.OW.pure rfl rfl rfl (E.PV.load_tm (E.rdc hX3) is79 rfl rfl ?_) ?_; (focus (omega))
                      refine E.OW.alloc (in79.zr) rfl rfl rfl rfl rfl (fun B2 => ?_)
                      refine E.OW.pure rfl rfl rfl (E.PV.assign rfl rfl) ?_
                      refine E.OW.store (i := 0) in79.size rfl rfl rfl rfl rfl rfl rfl rfl rfl ?_
                      refine E.OW.nil ?_
                      refine E.then_n ?_
                      refine E.CW.seq ?_
                      have hgt := E.Cfg.ts_getD g k
                      refine E.CW.region ?_
                      refine E.OW.pure rfl rfl rfl (E.PV.fieldAddr fa28_0 rfl rfl) ?_
                      refine E.OW.pure rfl rfl rfl (E.PV.loads (i := 2) is24 rfl rfl rfl rfl) ?_
                      refine E.OW.pure rfl rfl rfl (E.PV.move rfl rfl) ?_
                      refine E.OW.pure rfl rfl rfl (E.PV.loads (i := 0) is79 rfl rfl rfl rfl) ?_
                      (refine E.OW.call nm118 rfl rfl rfl rfl rfl rfl _ (fun w hw => CT_ok _ _ _ _ g.l (k : Int) (g.ts.getD k E.Tm.z) w ?_ ?_ (hw.rdm (hg.m _ (E.Tm.mem (by omega)))) (E.Cfg.fit_m hgf _ (E.Tm.mem (by omega)))) ?_; (focus (omega)); (focus (refine hw.rd ?_; assumption)); rintro _ _ ⟨rfl, rfl⟩)
                      refine E.OW.pure rfl rfl rfl (E.PV.assign rfl rfl) ?_
                      refine E.OW.nil ?_
                      refine E.then_n ?_
                      refine E.CW.seq ?_
                      refine E.CW.region ?_
                      refine E.OW.pure rfl rfl rfl (E.PV.move rfl rfl) ?_
                      refine E.OW.pure rfl rfl rfl (E.PV.neq rfl rfl rfl) ?_
                      refine E.OW.nil ?_
                      refine E.then_n ?_
                      refine E.CW.cond rfl (fun hc => ?_) (fun hc => ?_)
                      · simp only [E.b0, E.b1, E.b2, E.b3, E.b4, E.b5, E.b6, E.b7, E.b8, E.b9, E.b10, E.b11, E.b12, E.b13, E.b14, E.b15, E.b16, E.b17, E.b18, E.b19, E.b20, reduceCtorEq] at hc
                        all_goals (
                          refine E.CW.seq ?_
                          refine E.CW.region ?_
                          refine E.OW.pure rfl rfl rfl (E.PV.move rfl rfl) ?_
                          refine E.OW.pure rfl rfl rfl (E.PV.assign rfl rfl) ?_
                          refine E.OW.nil ?_
                          refine E.then_n ?_
                          refine E.CW.ret ?_
                          refine E.blk_ret ?_
                          refine E.then_ret ?_
                          refine E.then_ret ?_
                          refine E.blk_ret ?_
                          refine E.then_ret ?_
                          refine E.KR.one [] Try.results87 rfl rfl ?_
                          obtain ⟨h1, h2⟩ := Cf.teamOk_not (g := g.q) hv (show k < 3 by omega) (by rw [hgt]; assumption)
                          rw [hgt] at h2
                          exact ⟨congrArg (Value.int .i64) (h2.trans (Cf.check_t (g := g.q) hv hs (Cf.teams_at (by rw [htn]; omega) h1)).symm), rfl⟩)
                      · simp only [E.b0, E.b1, E.b2, E.b3, E.b4, E.b5, E.b6, E.b7, E.b8, E.b9, E.b10, E.b11, E.b12, E.b13, E.b14, E.b15, E.b16, E.b17, E.b18, E.b19, E.b20, reduceCtorEq] at hc
                        all_goals (
                          refine E.CW.skip ?_
                          refine E.blk_n ?_
                          refine E.then_n ?_
                          refine E.CW.region ?_
                          refine E.OW.pure rfl rfl rfl (E.PV.add_i64 rfl rfl rfl ?_) ?_; (focus (omega))
                          refine E.OW.pure rfl rfl rfl (E.PV.move rfl rfl) ?_
                          refine E.OW.nil ?_
                          refine E.then_nf ?_
                          refine ⟨_, [(33, _)], [1, 1], _, ?_, by repeat (first | exact E.cov_nil | refine ⟨rfl, ?_⟩), rfl, k + 1, rfl, rfl, rfl, by omega, Cf.next_all hI (Cf.teamOk_of hv (by omega) (by rw [hgt]; assumption))⟩
                          omega))
                  · simp only [E.b0, E.b1, E.b2, E.b3, E.b4, E.b5, E.b6, E.b7, E.b8, E.b9, E.b10, E.b11, E.b12, E.b13, E.b14, E.b15, E.b16, E.b17, E.b18, E.b19, E.b20, reduceCtorEq] at hc
                    all_goals (
                      refine E.CW.exit ?_
                      refine E.then_x ?_
                      refine E.then_x ?_
                      refine E.blk_eq ?_
                      refine E.then_n ?_
                      refine E.CW.seq ?_
                      refine E.CW.seq ?_
                      refine E.CW.drawx mixed [1] rfl ?_
                      all_goals (refine E.AW.first 0 rfl (by kernel_rfl) (by kernel_rfl) (by kernel_rfl) rfl rfl rfl (E.PV.fieldAddr fa28_0 rfl rfl) ?_)
                      all_goals (refine E.AW.first 1 rfl (by kernel_rfl) (by kernel_rfl) (by kernel_rfl) rfl rfl rfl (E.PV.fieldAddr fa24_2 rfl rfl) ?_)
                      all_goals (refine E.AW.first 2 rfl (by kernel_rfl) (by kernel_rfl) (by kernel_rfl) rfl rfl rfl (E.PV.load (i := 0) na22 rfl rfl rfl rfl) ?_)
                      all_goals (refine E.AW.first 3 rfl (by kernel_rfl) (by kernel_rfl) (by kernel_rfl) rfl rfl rfl (E.PV.loads (i := 0) is28 rfl rfl rfl rfl) ?_)
                      all_goals (refine E.AW.one 4 (by kernel_rfl) rfl ?_)
                      all_goals ((refine E.OW.call nm119 rfl rfl rfl rfl rfl rfl _ (fun w hw => Str_ok _ w) ?_; rintro _ _ ⟨BS, rfl, rfl⟩))
                      all_goals (first | (refine E.AW.nil [1] rfl ?_) | (refine E.AW.nil [2] rfl ?_) | (refine E.AW.nil [3] rfl ?_) | (refine E.AW.nil [4] rfl ?_) | (refine E.AW.nil [5] rfl ?_) | (refine E.AW.nil [6] rfl ?_) | (refine E.AW.nil [7] rfl ?_) | (refine E.AW.nil [0] rfl ?_) | (refine E.AW.nil [0] rfl ?_))
                      all_goals (refine E.AW.one 5 (by kernel_rfl) rfl ?_)
                      all_goals ((refine E.OW.call nm114 rfl rfl rfl rfl rfl rfl _ (fun w hw => CFU_ok _ _ g.l (fun x => !Cf.belongs g.q.ts x) 141 _ w nm141 (fun w2 hw2 x => by simpa using St1_ok g _ x w2 (hw2.rd (hw.rdblk (i := 0) rfl)) (hw2.rdC (hw.rdC hg)) hgf) ?_ ?_) ?_; (focus (omega)); (focus (refine hw.rd ?_; assumption)); rintro _ _ ⟨rfl, rfl⟩))
                      all_goals (first | (refine E.AW.nil [1] rfl ?_) | (refine E.AW.nil [2] rfl ?_) | (refine E.AW.nil [3] rfl ?_) | (refine E.AW.nil [4] rfl ?_) | (refine E.AW.nil [5] rfl ?_) | (refine E.AW.nil [6] rfl ?_) | (refine E.AW.nil [7] rfl ?_) | (refine E.AW.nil [0] rfl ?_) | (refine E.AW.nil [0] rfl ?_))
                      all_goals (refine E.AW.first 6 rfl (by kernel_rfl) (by kernel_rfl) (by kernel_rfl) rfl rfl rfl (E.PV.move rfl rfl) ?_)
                      all_goals (refine E.AW.split 53 rfl (fun hc => ?_) (fun hc => ?_) <;> (try simp only [E.b0, E.b1, E.b2, E.b3, E.b4, E.b5, E.b6, E.b7, E.b8, E.b9, E.b10, E.b11, E.b12, E.b13, E.b14, E.b15, E.b16, E.b17, E.b18, E.b19, E.b20, reduceCtorEq] at hc) <;> (try (exfalso; first | assumption | contradiction | omega)))
                      all_goals (first | (refine E.AW.first_off 7 rfl (by kernel_rfl) (by kernel_rfl) (by kernel_rfl) rfl rfl rfl ?_) | (refine E.AW.first 7 rfl (by kernel_rfl) (by kernel_rfl) (by kernel_rfl) rfl rfl rfl (E.PV.fieldAddr fa28_1 rfl rfl) ?_))
                      all_goals (first | (refine E.AW.first_off 8 rfl (by kernel_rfl) (by kernel_rfl) (by kernel_rfl) rfl rfl rfl ?_) | (refine E.AW.first 8 rfl (by kernel_rfl) (by kernel_rfl) (by kernel_rfl) rfl rfl rfl (E.PV.load (i := 0) na22 rfl rfl rfl rfl) ?_))
                      all_goals (first | (refine E.AW.first_off 9 rfl (by kernel_rfl) (by kernel_rfl) (by kernel_rfl) rfl rfl rfl ?_) | (refine E.AW.first 9 rfl (by kernel_rfl) (by kernel_rfl) (by kernel_rfl) rfl rfl rfl (E.PV.loads (i := 0) is28 rfl rfl rfl rfl) ?_))
                      all_goals (refine E.AW.one 10 (by kernel_rfl) rfl ?_)
                      all_goals (first | (refine E.OW.off rfl rfl rfl ?_) | ((refine E.OW.call nm119 rfl rfl rfl rfl rfl rfl _ (fun w hw => Str_ok _ w) ?_; rintro _ _ ⟨BS, rfl, rfl⟩)))
                      all_goals (first | (refine E.AW.nil [1] rfl ?_) | (refine E.AW.nil [2] rfl ?_) | (refine E.AW.nil [3] rfl ?_) | (refine E.AW.nil [4] rfl ?_) | (refine E.AW.nil [5] rfl ?_) | (refine E.AW.nil [6] rfl ?_) | (refine E.AW.nil [7] rfl ?_) | (refine E.AW.nil [0] rfl ?_) | (refine E.AW.nil [0] rfl ?_))
                      all_goals (refine E.AW.one 11 (by kernel_rfl) rfl ?_)
                      all_goals (first | (refine E.OW.off rfl rfl rfl ?_) | ((refine E.OW.call nm114 rfl rfl rfl rfl rfl rfl _ (fun w hw => CFU_ok _ _ g.s (fun x => !Cf.belongs g.q.ts x) 141 _ w nm141 (fun w2 hw2 x => by simpa using St1_ok g _ x w2 (hw2.rd (hw.rdblk (i := 0) rfl)) (hw2.rdC (hw.rdC hg)) hgf) ?_ ?_) ?_; (focus (omega)); (focus (refine hw.rd ?_; assumption)); rintro _ _ ⟨rfl, rfl⟩)))
                      all_goals (first | (refine E.AW.nil [1] rfl ?_) | (refine E.AW.nil [2] rfl ?_) | (refine E.AW.nil [3] rfl ?_) | (refine E.AW.nil [4] rfl ?_) | (refine E.AW.nil [5] rfl ?_) | (refine E.AW.nil [6] rfl ?_) | (refine E.AW.nil [7] rfl ?_) | (refine E.AW.nil [0] rfl ?_) | (refine E.AW.nil [0] rfl ?_))
                      all_goals (first | (refine E.AW.first 12 rfl (by kernel_rfl) (by kernel_rfl) (by kernel_rfl) rfl rfl rfl (E.PV.pick_t rfl rfl rfl) ?_) | (refine E.AW.first 12 rfl (by kernel_rfl) (by kernel_rfl) (by kernel_rfl) rfl rfl rfl (E.PV.pick_f rfl rfl rfl) ?_))
                      all_goals (refine E.AW.done (by kernel_rfl) ?_)
                      all_goals (
                        skip
                        refine E.then_n ?_
                        refine E.CW.cond rfl (fun hc => ?_) (fun hc => ?_)
                        · first | (simp only [E.b0, E.b1, E.b2, E.b3, E.b4, E.b5, E.b6, E.b7, E.b8, E.b9, E.b10, E.b11, E.b12, E.b13, E.b14, E.b15, E.b16, E.b17, E.b18, E.b19, E.b20, reduceCtorEq] at hc) | (skip)
                          all_goals (
                            refine E.CW.seq ?_
                            refine E.CW.region ?_
                            refine E.OW.pure rfl rfl rfl (E.PV.assign rfl rfl) ?_
                            refine E.OW.nil ?_
                            refine E.then_n ?_
                            refine E.CW.ret ?_
                            refine E.then_ret ?_
                            refine E.KR.one [] Try.results87 rfl rfl ?_
                            first | exact ⟨congrArg (Value.int .i64) (Cf.check_t (g := g.q) hv hs (Cf.teams_cells (Cf.any_bad (by assumption)))).symm, rfl⟩ | exact ⟨congrArg (Value.int .i64) (Cf.check_t (g := g.q) hv hs (Cf.teams_slices (Cf.any_bad (by assumption)))).symm, rfl⟩)
                        · first | ((cases hc; done)) | (skip)
                          all_goals (
                            refine E.CW.skip ?_
                            refine E.then_n ?_
                            refine E.CW.seq ?_
                            refine E.CW.seq ?_
                            have htok : Cf.teamsOk g.q = true := Cf.teams_good (g := g.q) (by rw [htn]; have := Cf.some_len (g := g.q) (by rw [htn]; exact hten); rwa [htn] at this) (by rw [htn]; omega) (fun j hj => hI j (by rw [htn] at hj; omega)) (Cf.any_good (by assumption)) (Cf.any_good (by assumption)) (Cf.some_one (g := g.q) (by rw [htn]; exact hten))
                            refine E.CW.region ?_
                            refine E.OW.pure rfl rfl rfl (E.PV.fieldAddr fa28_3 rfl rfl) ?_
                            refine E.OW.pure rfl rfl rfl (E.PV.load (i := 3) na26 rfl rfl rfl rfl) ?_
                            refine E.OW.pure rfl rfl rfl (E.PV.gtr rfl rfl rfl) ?_
                            refine E.OW.nil ?_
                            refine E.then_n ?_
                            refine E.CW.cond rfl (fun hc => ?_) (fun hc => ?_)
                            · simp only [E.b0, E.b1, E.b2, E.b3, E.b4, E.b5, E.b6, E.b7, E.b8, E.b9, E.b10, E.b11, E.b12, E.b13, E.b14, E.b15, E.b16, E.b17, E.b18, E.b19, E.b20, reduceCtorEq] at hc
                              all_goals (
                                refine E.CW.seq ?_
                                refine E.CW.region ?_
                                refine E.OW.pure rfl rfl rfl (E.PV.assign rfl rfl) ?_
                                refine E.OW.nil ?_
                                refine E.then_n ?_
                                refine E.CW.ret ?_
                                refine E.then_ret ?_
                                refine E.KR.one [] Try.results87 rfl rfl ?_
                                exact ⟨congrArg (Value.int .i64) (Cf.check_st (g := g.q) hv hs htok (by assumption)).symm, rfl⟩)
                            · simp only [E.b0, E.b1, E.b2, E.b3, E.b4, E.b5, E.b6, E.b7, E.b8, E.b9, E.b10, E.b11, E.b12, E.b13, E.b14, E.b15, E.b16, E.b17, E.b18, E.b19, E.b20, reduceCtorEq] at hc
                              all_goals (
                                refine E.CW.skip ?_
                                refine E.then_n ?_
                                refine E.CW.seq ?_
                                refine E.CW.region ?_
                                refine E.OW.pure rfl rfl rfl (E.PV.assign rfl rfl) ?_
                                refine E.OW.nil ?_
                                refine E.then_n ?_
                                refine E.CW.ret ?_
                                refine E.KR.one [] Try.results87 rfl rfl ?_
                                exact ⟨congrArg (Value.int .i64) (Cf.check_ok (g := g.q) hv hs htok (by assumption)).symm, rfl⟩))))))))

set_option maxRecDepth 100000 in
theorem rTs_ok (g : E.Cfg) (w0 : World) (hg : g.rd w0 (E.Old w0)) (hgf : g.q.fit) :
    Calls Try.prog 122 #[g.v] w0 (E.Post w0 (E.Old w0) fun v Hn => v = .bool (Cf.teamsOk g.q) ∧ Hn = []) := by
  obtain ⟨hX1, hX2, hX3, hX4⟩ := id hg
  have hgl := E.Cfg.fit_len hgf
  have htn := E.Cfg.ts_len g
  refine E.calls_of (vs := [g.v]) (H := []) Try.func122 Try.ntmps122 rfl rfl (E.HA.start w0) ?_
  refine E.CW.seq ?_
  refine E.CW.region ?_
  refine E.OW.box rfl rfl rfl rfl rfl rfl (fun B1 => ?_)
  refine E.OW.pure rfl rfl rfl (E.PV.assign rfl rfl) ?_
  refine E.OW.nil ?_
  refine E.then_n ?_
  refine E.CW.seq ?_
  refine E.CW.seq ?_
  refine E.CW.region ?_
  refine E.OW.pure rfl rfl rfl (E.PV.fieldAddr fa28_2 rfl rfl) ?_
  refine E.OW.pure rfl rfl rfl (E.PV.load (i := 0) na25 rfl rfl rfl rfl) ?_
  refine E.OW.pure rfl rfl rfl (E.PV.len Try.underlying25 rfl rfl) ?_
  refine E.OW.pure rfl rfl rfl (E.PV.lss rfl rfl rfl) ?_
  refine E.OW.pure rfl rfl rfl (E.PV.move rfl rfl) ?_
  all_goals (refine E.OW.split 11 rfl (fun hc => ?_) (fun hc => ?_) <;> (try simp only [E.b0, E.b1, E.b2, E.b3, E.b4, E.b5, E.b6, E.b7, E.b8, E.b9, E.b10, E.b11, E.b12, E.b13, E.b14, E.b15, E.b16, E.b17, E.b18, E.b19, E.b20, reduceCtorEq] at hc) <;> (try (exfalso; first | assumption | contradiction | omega)))
  all_goals (first | (refine E.OW.off rfl rfl rfl ?_) | (refine E.OW.pure rfl rfl rfl (E.PV.fieldAddr fa28_2 rfl rfl) ?_))
  all_goals (first | (refine E.OW.off rfl rfl rfl ?_) | (refine E.OW.pure rfl rfl rfl (E.PV.load (i := 0) na25 rfl rfl rfl rfl) ?_))
  all_goals (first | (refine E.OW.off rfl rfl rfl ?_) | (refine E.OW.pure rfl rfl rfl (E.PV.len Try.underlying25 rfl rfl) ?_))
  all_goals (first | (refine E.OW.off rfl rfl rfl ?_) | (refine E.OW.pure rfl rfl rfl (E.PV.gtr rfl rfl rfl) ?_))
  all_goals (first | (refine E.OW.pure rfl rfl rfl (E.PV.pick_t rfl rfl rfl) ?_) | (refine E.OW.pure rfl rfl rfl (E.PV.pick_f rfl rfl rfl) ?_))
  all_goals (
    refine E.OW.nil ?_
    refine E.then_n ?_
    refine E.CW.cond rfl (fun hc => ?_) (fun hc => ?_)
    · simp only [E.b0, E.b1, E.b2, E.b3, E.b4, E.b5, E.b6, E.b7, E.b8, E.b9, E.b10, E.b11, E.b12, E.b13, E.b14, E.b15, E.b16, E.b17, E.b18, E.b19, E.b20, reduceCtorEq] at hc
      all_goals (
        refine E.CW.seq ?_
        refine E.CW.region ?_
        refine E.OW.pure rfl rfl rfl (E.PV.assign rfl rfl) ?_
        refine E.OW.nil ?_
        refine E.then_n ?_
        refine E.CW.ret ?_
        refine E.then_ret ?_
        refine E.KR.one [] Try.results122 rfl rfl ?_
        exact ⟨by first | rw [Cf.teams_few (g := g.q) (by rw [htn]; assumption)] | rw [Cf.teams_many (g := g.q) (by rw [htn]; assumption)], rfl⟩)
    · first | ((cases hc; done)) | (simp only [E.b0, E.b1, E.b2, E.b3, E.b4, E.b5, E.b6, E.b7, E.b8, E.b9, E.b10, E.b11, E.b12, E.b13, E.b14, E.b15, E.b16, E.b17, E.b18, E.b19, E.b20, reduceCtorEq] at hc)
      all_goals (
        refine E.CW.skip ?_
        refine E.then_n ?_
        refine E.CW.seq ?_
        refine E.CW.region ?_
        refine E.OW.pure rfl rfl rfl (E.PV.assign rfl rfl) ?_
        refine E.OW.nil ?_
        refine E.then_n ?_
        refine E.CW.seq ?_
        refine E.CW.seq ?_
        refine E.CW.region ?_
        refine E.OW.pure rfl rfl rfl (E.PV.assign rfl rfl) ?_
        refine E.OW.nil ?_
        refine E.then_n ?_
        refine E.CW.block ?_
        refine E.CW.loopk [1] 0 rfl rfl (fun mm mods Hm => ∃ k : Nat, ∃ sm : Bool, mm = g.ts.length - k ∧ mods = [(4, .int .i64 k), (3, .bool sm)] ∧ Hm = [] ∧ (k ≤ g.ts.length ∧ (∀ j, j < k → Cf.teamOk g.q j = true) ∧ sm = (List.range k).any fun j => (!Cf.absent (g.q.ts.getD j Cf.T.z)))) (g.ts.length) ?_ ?_
        · exact ⟨[(4, _), (3, _)], (by repeat (first | exact E.cov_nil | refine ⟨rfl, ?_⟩)), 0, _, rfl, rfl, rfl, by omega, (fun j hj => by omega), rfl⟩
        · rintro _ _ _ ⟨k, sm, rfl, rfl, rfl, hk, hI, hsm⟩
          refine E.CW.seq ?_
          refine E.CW.seq ?_
          refine E.CW.region ?_
          refine E.OW.pure rfl rfl rfl (E.PV.move rfl rfl) ?_
          refine E.OW.pure rfl rfl rfl (E.PV.fieldAddr fa28_2 rfl rfl) ?_
          refine E.OW.pure rfl rfl rfl (E.PV.load (i := 0) na25 rfl rfl rfl rfl) ?_
          refine E.OW.pure rfl rfl rfl (E.PV.len Try.underlying25 rfl rfl) ?_
          refine E.OW.pure rfl rfl rfl (E.PV.lss rfl rfl rfl) ?_
          refine E.OW.nil ?_
          refine E.then_n ?_
          refine E.CW.cond rfl (fun hc => ?_) (fun hc => ?_)
          · simp only [E.b0, E.b1, E.b2, E.b3, E.b4, E.b5, E.b6, E.b7, E.b8, E.b9, E.b10, E.b11, E.b12, E.b13, E.b14, E.b15, E.b16, E.b17, E.b18, E.b19, E.b20, reduceCtorEq] at hc
            all_goals (
              refine E.CW.skip ?_
              refine E.then_n ?_
              refine E.CW.seq ?_
              refine E.CW.block ?_
              refine E.CW.seq ?_
              refine E.CW.seq ?_
              have hgt := E.Cfg.ts_getD g k
              refine E.CW.region ?_
              refine E.OW.pure rfl rfl rfl (E.PV.fieldAddr fa28_2 rfl rfl) ?_
              refine E.OW.pure rfl rfl rfl (E.PV.load (i := 0) na25 rfl rfl rfl rfl) ?_
              refine E.OW.pure rfl rfl rfl (E.PV.move rfl rfl) ?_
              refine E.OW.pure rfl rfl rfl (E.PV.indexAddr (E.rdc hX3) Try.underlying25 in79 rfl rfl rfl rfl ?_ ?_ (by decide)) ?_; (focus (first | (simp; done) | (simp; omega))); (focus (omega))
              refine E.OW.pure rfl rfl rfl (E.PV.load_tm (E.rdc hX3) is79 rfl rfl ?_) ?_; (focus (omega))
              (refine E.OW.call nm131 rfl rfl rfl rfl rfl rfl _ (fun w hw => rAb_ok (g.ts.getD k E.Tm.z) w (hw.rdm (hg.m _ (E.Tm.mem (by omega)))) (E.Cfg.fit_m hgf _ (E.Tm.mem (by omega)))) ?_; rintro _ _ ⟨rfl, rfl⟩)
              refine E.OW.nil ?_
              refine E.then_n ?_
              refine E.CW.cond rfl (fun hc => ?_) (fun hc => ?_)
              · skip
                all_goals (
                  refine E.CW.exit ?_
                  refine E.then_x ?_
                  refine E.blk_eq ?_
                  refine E.then_n ?_
                  refine E.CW.region ?_
                  refine E.OW.pure rfl rfl rfl (E.PV.move rfl rfl) ?_
                  refine E.OW.pure rfl rfl rfl (E.PV.add_i64 rfl rfl rfl ?_) ?_; (focus (omega))
                  refine E.OW.pure rfl rfl rfl (E.PV.assign rfl rfl) ?_
                  refine E.OW.nil ?_
                  refine E.then_nf ?_
                  refine ⟨_, [(4, _), (3, _)], [0], _, ?_, by repeat (first | exact E.cov_nil | refine ⟨rfl, ?_⟩), rfl, k + 1, sm, rfl, rfl, rfl, by omega, Cf.next_all hI (by rw [Cf.teamOk, hgt]; simp_all), by (rw [Cf.any_succ, ← hsm, hgt]; simp_all)⟩
                  omega)
              · skip
                all_goals (
                  refine E.CW.skip ?_
                  refine E.then_n ?_
                  refine E.CW.seq ?_
                  refine E.CW.region ?_
                  refine E.OW.pure rfl rfl rfl (E.PV.assign rfl rfl) ?_
                  refine E.OW.nil ?_
                  refine E.then_n ?_
                  refine E.CW.seq ?_
                  refine E.CW.draw mixed (by kernel_rfl) ?_
                  refine E.QW.pure rfl rfl rfl (E.PV.fieldAddr fa28_0 rfl rfl) ?_
                  refine E.QW.pure rfl rfl rfl (E.PV.loads (i := 0) is24 rfl rfl rfl rfl) ?_
                  refine E.QW.pure rfl rfl rfl (E.PV.move rfl rfl) ?_
                  refine E.QW.pure rfl rfl rfl (E.PV.fieldAddr fa28_2 rfl rfl) ?_
                  refine E.QW.pure rfl rfl rfl (E.PV.load (i := 0) na25 rfl rfl rfl rfl) ?_
                  refine E.QW.pure rfl rfl rfl (E.PV.move rfl rfl) ?_
                  refine E.QW.pure rfl rfl rfl (E.PV.indexAddr (E.rdc hX3) Try.underlying25 in79 rfl rfl rfl rfl ?_ ?_ (by decide)) ?_; (focus (first | (simp; done) | (simp; omega))); (focus (omega))
                  refine E.QW.pure rfl rfl rfl (E.PV.load_tm (E.rdc hX3) is79 rfl rfl ?_) ?_; (focus (omega))
                  (refine E.QW.call nm144 rfl rfl rfl rfl rfl rfl _ (fun w hw => E.Post.val (rVT_ok _ _ _ _ g.l (k : Int) (g.ts.getD k E.Tm.z) w ?_ ?_ (hw.rdm (hg.m _ (E.Tm.mem (by omega)))) (E.Cfg.fit_m hgf _ (E.Tm.mem (by omega))))) ?_; (focus (omega)); (focus (refine hw.rd ?_; assumption)))
                  refine E.QW.pure rfl rfl rfl (E.PV.not rfl rfl) ?_
                  refine E.QW.nil ?_
                  refine E.then_n ?_
                  refine E.CW.cond rfl (fun hc => ?_) (fun hc => ?_)
                  · simp only [E.b0, E.b1, E.b2, E.b3, E.b4, E.b5, E.b6, E.b7, E.b8, E.b9, E.b10, E.b11, E.b12, E.b13, E.b14, E.b15, E.b16, E.b17, E.b18, E.b19, E.b20, reduceCtorEq] at hc
                    all_goals (
                      refine E.CW.seq ?_
                      refine E.CW.region ?_
                      refine E.OW.pure rfl rfl rfl (E.PV.assign rfl rfl) ?_
                      refine E.OW.nil ?_
                      refine E.then_n ?_
                      refine E.CW.ret ?_
                      refine E.blk_ret ?_
                      refine E.then_ret ?_
                      refine E.then_ret ?_
                      refine E.blk_ret ?_
                      refine E.then_ret ?_
                      refine E.KR.one [] Try.results122 rfl rfl ?_
                      exact ⟨by rw [Cf.teams_at (g := g.q) (k := k) (by rw [htn]; omega) (by rw [Cf.teamOk, hgt]; simp_all [E.Cfg.q])], rfl⟩)
                  · simp only [E.b0, E.b1, E.b2, E.b3, E.b4, E.b5, E.b6, E.b7, E.b8, E.b9, E.b10, E.b11, E.b12, E.b13, E.b14, E.b15, E.b16, E.b17, E.b18, E.b19, E.b20, reduceCtorEq] at hc
                    all_goals (
                      refine E.CW.skip ?_
                      refine E.blk_n ?_
                      refine E.then_n ?_
                      refine E.CW.region ?_
                      refine E.OW.pure rfl rfl rfl (E.PV.move rfl rfl) ?_
                      refine E.OW.pure rfl rfl rfl (E.PV.add_i64 rfl rfl rfl ?_) ?_; (focus (omega))
                      refine E.OW.pure rfl rfl rfl (E.PV.assign rfl rfl) ?_
                      refine E.OW.nil ?_
                      refine E.then_nf ?_
                      refine ⟨_, [(4, _), (3, _)], [0], _, ?_, by repeat (first | exact E.cov_nil | refine ⟨rfl, ?_⟩), rfl, k + 1, true, rfl, rfl, rfl, by omega, Cf.next_all hI (by rw [Cf.teamOk, hgt]; simp_all [E.Cfg.q]), by (rw [Cf.any_succ, hgt]; simp_all)⟩
                      omega)))
          · simp only [E.b0, E.b1, E.b2, E.b3, E.b4, E.b5, E.b6, E.b7, E.b8, E.b9, E.b10, E.b11, E.b12, E.b13, E.b14, E.b15, E.b16, E.b17, E.b18, E.b19, E.b20, reduceCtorEq] at hc
            all_goals (
              refine E.CW.exit ?_
              refine E.then_x ?_
              refine E.then_x ?_
              refine E.blk_eq ?_
              refine E.then_n ?_
              refine E.CW.seq ?_
              refine E.CW.seq ?_
              have hk0 : k = g.ts.length := by omega
              refine E.CW.region ?_
              refine E.OW.pure rfl rfl rfl (E.PV.assign rfl rfl) ?_
              refine E.OW.nil ?_
              refine E.then_n ?_
              refine E.CW.block ?_
              refine E.CW.loopk [1, 3] 0 rfl rfl (fun mm mods Hm => ∃ k : Nat, mm = g.l.length - k ∧ mods = [(5, .int .i64 k)] ∧ Hm = [] ∧ (k ≤ g.l.length ∧ ∀ j, j < k → Cf.belongs g.q.ts (g.l.getD j 0) = true)) (g.l.length) ?_ ?_
              · exact ⟨[(5, _)], (by repeat (first | exact E.cov_nil | refine ⟨rfl, ?_⟩)), 0, rfl, rfl, rfl, by omega, fun j hj => by omega⟩
              · rintro _ _ _ ⟨k, rfl, rfl, rfl, hk, hIl⟩
                refine E.CW.seq ?_
                refine E.CW.seq ?_
                refine E.CW.region ?_
                refine E.OW.pure rfl rfl rfl (E.PV.move rfl rfl) ?_
                refine E.OW.pure rfl rfl rfl (E.PV.fieldAddr fa28_0 rfl rfl) ?_
                refine E.OW.pure rfl rfl rfl (E.PV.fieldAddr fa24_2 rfl rfl) ?_
                refine E.OW.pure rfl rfl rfl (E.PV.load (i := 0) na22 rfl rfl rfl rfl) ?_
                refine E.OW.pure rfl rfl rfl (E.PV.len Try.underlying22 rfl rfl) ?_
                refine E.OW.pure rfl rfl rfl (E.PV.lss rfl rfl rfl) ?_
                refine E.OW.nil ?_
                refine E.then_n ?_
                refine E.CW.cond rfl (fun hc => ?_) (fun hc => ?_)
                · simp only [E.b0, E.b1, E.b2, E.b3, E.b4, E.b5, E.b6, E.b7, E.b8, E.b9, E.b10, E.b11, E.b12, E.b13, E.b14, E.b15, E.b16, E.b17, E.b18, E.b19, E.b20, reduceCtorEq] at hc
                  all_goals (
                    refine E.CW.skip ?_
                    refine E.then_n ?_
                    refine E.CW.seq ?_
                    refine E.CW.block ?_
                    refine E.CW.seq ?_
                    refine E.CW.draw mixed (by kernel_rfl) ?_
                    refine E.QW.pure rfl rfl rfl (E.PV.loads (i := 0) is28 rfl rfl rfl rfl) ?_
                    refine E.QW.pure rfl rfl rfl (E.PV.fieldAddr fa28_0 rfl rfl) ?_
                    refine E.QW.pure rfl rfl rfl (E.PV.fieldAddr fa24_2 rfl rfl) ?_
                    refine E.QW.pure rfl rfl rfl (E.PV.load (i := 0) na22 rfl rfl rfl rfl) ?_
                    refine E.QW.pure rfl rfl rfl (E.PV.move rfl rfl) ?_
                    refine E.QW.pure rfl rfl rfl (E.PV.indexAddr1 (E.rdc hX1) Try.underlying22 in5 rfl rfl rfl rfl ?_ ?_) ?_; (focus (first | (simp; done) | (simp; omega))); (focus (omega))
                    refine E.QW.pure rfl rfl rfl (E.PV.load_u8 (E.rdc hX1) na5 rfl rfl ?_) ?_; (focus (omega))
                    (refine E.QW.call nm145 rfl rfl rfl rfl rfl rfl _ (fun w hw => E.Post.val (Bl_ok g _ w ?_ ?_)) ?_; (focus (refine hw.rdC ?_; assumption)); (focus (assumption)))
                    refine E.QW.pure rfl rfl rfl (E.PV.not rfl rfl) ?_
                    refine E.QW.nil ?_
                    refine E.then_n ?_
                    refine E.CW.cond rfl (fun hc => ?_) (fun hc => ?_)
                    · simp only [E.b0, E.b1, E.b2, E.b3, E.b4, E.b5, E.b6, E.b7, E.b8, E.b9, E.b10, E.b11, E.b12, E.b13, E.b14, E.b15, E.b16, E.b17, E.b18, E.b19, E.b20, reduceCtorEq] at hc
                      all_goals (
                        refine E.CW.seq ?_
                        refine E.CW.region ?_
                        refine E.OW.pure rfl rfl rfl (E.PV.assign rfl rfl) ?_
                        refine E.OW.nil ?_
                        refine E.then_n ?_
                        refine E.CW.ret ?_
                        refine E.blk_ret ?_
                        refine E.then_ret ?_
                        refine E.then_ret ?_
                        refine E.blk_ret ?_
                        refine E.then_ret ?_
                        refine E.KR.one [] Try.results122 rfl rfl ?_
                        exact ⟨by rw [Cf.teams_cells (g := g.q) (Cf.all_bad (z := 0) (k := k) (show k < g.l.length by omega) (by assumption))], rfl⟩)
                    · simp only [E.b0, E.b1, E.b2, E.b3, E.b4, E.b5, E.b6, E.b7, E.b8, E.b9, E.b10, E.b11, E.b12, E.b13, E.b14, E.b15, E.b16, E.b17, E.b18, E.b19, E.b20, reduceCtorEq] at hc
                      all_goals (
                        refine E.CW.skip ?_
                        refine E.blk_n ?_
                        refine E.then_n ?_
                        refine E.CW.region ?_
                        refine E.OW.pure rfl rfl rfl (E.PV.move rfl rfl) ?_
                        refine E.OW.pure rfl rfl rfl (E.PV.add_i64 rfl rfl rfl ?_) ?_; (focus (omega))
                        refine E.OW.pure rfl rfl rfl (E.PV.assign rfl rfl) ?_
                        refine E.OW.nil ?_
                        refine E.then_nf ?_
                        refine ⟨_, [(5, _)], [0], _, ?_, by repeat (first | exact E.cov_nil | refine ⟨rfl, ?_⟩), rfl, k + 1, rfl, rfl, rfl, by omega, Cf.next_all hIl (by assumption)⟩
                        omega))
                · simp only [E.b0, E.b1, E.b2, E.b3, E.b4, E.b5, E.b6, E.b7, E.b8, E.b9, E.b10, E.b11, E.b12, E.b13, E.b14, E.b15, E.b16, E.b17, E.b18, E.b19, E.b20, reduceCtorEq] at hc
                  all_goals (
                    refine E.CW.exit ?_
                    refine E.then_x ?_
                    refine E.then_x ?_
                    refine E.blk_eq ?_
                    refine E.then_n ?_
                    refine E.CW.seq ?_
                    refine E.CW.seq ?_
                    refine E.CW.region ?_
                    refine E.OW.pure rfl rfl rfl (E.PV.assign rfl rfl) ?_
                    refine E.OW.nil ?_
                    refine E.then_n ?_
                    refine E.CW.block ?_
                    refine E.CW.loopk [1, 3] 0 rfl rfl (fun mm mods Hm => ∃ k : Nat, mm = g.s.length - k ∧ mods = [(6, .int .i64 k)] ∧ Hm = [] ∧ (k ≤ g.s.length ∧ ∀ j, j < k → Cf.belongs g.q.ts (g.s.getD j 0) = true)) (g.s.length) ?_ ?_
                    · exact ⟨[(6, _)], (by repeat (first | exact E.cov_nil | refine ⟨rfl, ?_⟩)), 0, rfl, rfl, rfl, by omega, fun j hj => by omega⟩
                    · rintro _ _ _ ⟨k, rfl, rfl, rfl, hk, hIs⟩
                      refine E.CW.seq ?_
                      refine E.CW.seq ?_
                      refine E.CW.region ?_
                      refine E.OW.pure rfl rfl rfl (E.PV.move rfl rfl) ?_
                      refine E.OW.pure rfl rfl rfl (E.PV.fieldAddr fa28_1 rfl rfl) ?_
                      refine E.OW.pure rfl rfl rfl (E.PV.load (i := 0) na22 rfl rfl rfl rfl) ?_
                      refine E.OW.pure rfl rfl rfl (E.PV.len Try.underlying22 rfl rfl) ?_
                      refine E.OW.pure rfl rfl rfl (E.PV.lss rfl rfl rfl) ?_
                      refine E.OW.nil ?_
                      refine E.then_n ?_
                      refine E.CW.cond rfl (fun hc => ?_) (fun hc => ?_)
                      · simp only [E.b0, E.b1, E.b2, E.b3, E.b4, E.b5, E.b6, E.b7, E.b8, E.b9, E.b10, E.b11, E.b12, E.b13, E.b14, E.b15, E.b16, E.b17, E.b18, E.b19, E.b20, reduceCtorEq] at hc
                        all_goals (
                          refine E.CW.skip ?_
                          refine E.then_n ?_
                          refine E.CW.seq ?_
                          refine E.CW.block ?_
                          refine E.CW.seq ?_
                          refine E.CW.draw mixed (by kernel_rfl) ?_
                          refine E.QW.pure rfl rfl rfl (E.PV.loads (i := 0) is28 rfl rfl rfl rfl) ?_
                          refine E.QW.pure rfl rfl rfl (E.PV.fieldAddr fa28_1 rfl rfl) ?_
                          refine E.QW.pure rfl rfl rfl (E.PV.load (i := 0) na22 rfl rfl rfl rfl) ?_
                          refine E.QW.pure rfl rfl rfl (E.PV.move rfl rfl) ?_
                          refine E.QW.pure rfl rfl rfl (E.PV.indexAddr1 (E.rdc hX2) Try.underlying22 in5 rfl rfl rfl rfl ?_ ?_) ?_; (focus (first | (simp; done) | (simp; omega))); (focus (omega))
                          refine E.QW.pure rfl rfl rfl (E.PV.load_u8 (E.rdc hX2) na5 rfl rfl ?_) ?_; (focus (omega))
                          (refine E.QW.call nm145 rfl rfl rfl rfl rfl rfl _ (fun w hw => E.Post.val (Bl_ok g _ w ?_ ?_)) ?_; (focus (refine hw.rdC ?_; assumption)); (focus (assumption)))
                          refine E.QW.pure rfl rfl rfl (E.PV.not rfl rfl) ?_
                          refine E.QW.nil ?_
                          refine E.then_n ?_
                          refine E.CW.cond rfl (fun hc => ?_) (fun hc => ?_)
                          · simp only [E.b0, E.b1, E.b2, E.b3, E.b4, E.b5, E.b6, E.b7, E.b8, E.b9, E.b10, E.b11, E.b12, E.b13, E.b14, E.b15, E.b16, E.b17, E.b18, E.b19, E.b20, reduceCtorEq] at hc
                            all_goals (
                              refine E.CW.seq ?_
                              refine E.CW.region ?_
                              refine E.OW.pure rfl rfl rfl (E.PV.assign rfl rfl) ?_
                              refine E.OW.nil ?_
                              refine E.then_n ?_
                              refine E.CW.ret ?_
                              refine E.blk_ret ?_
                              refine E.then_ret ?_
                              refine E.then_ret ?_
                              refine E.blk_ret ?_
                              refine E.then_ret ?_
                              refine E.KR.one [] Try.results122 rfl rfl ?_
                              exact ⟨by rw [Cf.teams_slices (g := g.q) (Cf.all_bad (z := 0) (k := k) (show k < g.s.length by omega) (by assumption))], rfl⟩)
                          · simp only [E.b0, E.b1, E.b2, E.b3, E.b4, E.b5, E.b6, E.b7, E.b8, E.b9, E.b10, E.b11, E.b12, E.b13, E.b14, E.b15, E.b16, E.b17, E.b18, E.b19, E.b20, reduceCtorEq] at hc
                            all_goals (
                              refine E.CW.skip ?_
                              refine E.blk_n ?_
                              refine E.then_n ?_
                              refine E.CW.region ?_
                              refine E.OW.pure rfl rfl rfl (E.PV.move rfl rfl) ?_
                              refine E.OW.pure rfl rfl rfl (E.PV.add_i64 rfl rfl rfl ?_) ?_; (focus (omega))
                              refine E.OW.pure rfl rfl rfl (E.PV.assign rfl rfl) ?_
                              refine E.OW.nil ?_
                              refine E.then_nf ?_
                              refine ⟨_, [(6, _)], [0], _, ?_, by repeat (first | exact E.cov_nil | refine ⟨rfl, ?_⟩), rfl, k + 1, rfl, rfl, rfl, by omega, Cf.next_all hIs (by assumption)⟩
                              omega))
                      · simp only [E.b0, E.b1, E.b2, E.b3, E.b4, E.b5, E.b6, E.b7, E.b8, E.b9, E.b10, E.b11, E.b12, E.b13, E.b14, E.b15, E.b16, E.b17, E.b18, E.b19, E.b20, reduceCtorEq] at hc
                        all_goals (
                          refine E.CW.exit ?_
                          refine E.then_x ?_
                          refine E.then_x ?_
                          refine E.blk_eq ?_
                          refine E.then_n ?_
                          refine E.CW.seq ?_
                          refine E.CW.region ?_
                          refine E.OW.pure rfl rfl rfl (E.PV.move rfl rfl) ?_
                          refine E.OW.pure rfl rfl rfl (E.PV.assign rfl rfl) ?_
                          refine E.OW.nil ?_
                          refine E.then_n ?_
                          refine E.CW.ret ?_
                          refine E.KR.one [] Try.results122 rfl rfl ?_
                          exact ⟨by rw [Cf.teams_good (g := g.q) (sm := sm) (by rw [htn]; omega) (by rw [htn]; omega) (fun j hj => hI j (by rw [htn] at hj; omega)) (Cf.all_good (z := 0) (fun j hj => hIl j (by have hj2 : j < g.l.length := hj; omega))) (Cf.all_good (z := 0) (fun j hj => hIs j (by have hj2 : j < g.s.length := hj; omega))) (by rw [htn, ← hk0]; exact hsm)], rfl⟩)))))

set_option maxRecDepth 100000 in
theorem rCk_ok (g : E.Cfg) (w0 : World) (hg : g.rd w0 (E.Old w0)) (hgf : g.q.fit) :
    Calls Try.prog 91 #[g.v] w0 (E.Post w0 (E.Old w0) fun v Hn => v = .int .i64 (Cf.check g.q) ∧ Hn = []) := by
  obtain ⟨hX1, hX2, hX3, hX4⟩ := id hg
  have hgl := E.Cfg.fit_len hgf
  refine E.calls_of (vs := [g.v]) (H := []) Try.func91 Try.ntmps91 rfl rfl (E.HA.start w0) ?_
  refine E.CW.seq ?_
  refine E.CW.region ?_
  refine E.OW.box rfl rfl rfl rfl rfl rfl (fun B1 => ?_)
  refine E.OW.pure rfl rfl rfl (E.PV.assign rfl rfl) ?_
  refine E.OW.nil ?_
  refine E.then_n ?_
  refine E.CW.seq ?_
  refine E.CW.seq ?_
  refine E.CW.region ?_
  refine E.OW.pure rfl rfl rfl (E.PV.fieldAddr fa28_0 rfl rfl) ?_
  refine E.OW.pure rfl rfl rfl (E.PV.loads (i := 0) is24 rfl rfl rfl rfl) ?_
  (refine E.OW.call nm120 rfl rfl rfl rfl rfl rfl _ (fun w hw => rValidFloor_ok _ _ _ _ g.l w ?_ ?_) ?_; (focus (omega)); (focus (refine hw.rd ?_; assumption)); rintro _ _ ⟨rfl, rfl⟩)
  refine E.OW.pure rfl rfl rfl (E.PV.not rfl rfl) ?_
  refine E.OW.nil ?_
  refine E.then_n ?_
  refine E.CW.cond rfl (fun hc => ?_) (fun hc => ?_)
  · simp only [E.b0, E.b1, E.b2, E.b3, E.b4, E.b5, E.b6, E.b7, E.b8, E.b9, E.b10, E.b11, E.b12, E.b13, E.b14, E.b15, E.b16, E.b17, E.b18, E.b19, E.b20, reduceCtorEq] at hc
    all_goals (
      refine E.CW.seq ?_
      refine E.CW.region ?_
      refine E.OW.pure rfl rfl rfl (E.PV.assign rfl rfl) ?_
      refine E.OW.nil ?_
      refine E.then_n ?_
      refine E.CW.ret ?_
      refine E.then_ret ?_
      refine E.KR.one [] Try.results91 rfl rfl ?_
      exact ⟨congrArg (Value.int .i64) (show (50 : Int) = Cf.check g.q from by unfold Cf.check; rw [if_neg (show ¬ Fl.validF g.q.a g.q.b g.q.l = true from by rw [show Fl.validF g.q.a g.q.b g.q.l = false from by assumption]; simp)]), rfl⟩)
  · simp only [E.b0, E.b1, E.b2, E.b3, E.b4, E.b5, E.b6, E.b7, E.b8, E.b9, E.b10, E.b11, E.b12, E.b13, E.b14, E.b15, E.b16, E.b17, E.b18, E.b19, E.b20, reduceCtorEq] at hc
    all_goals (
      refine E.CW.skip ?_
      refine E.then_n ?_
      refine E.CW.seq ?_
      refine E.CW.seq ?_
      have hv : Fl.validF g.a g.b g.l = true := by assumption
      refine E.CW.region ?_
      refine E.OW.pure rfl rfl rfl (E.PV.fieldAddr fa28_1 rfl rfl) ?_
      refine E.OW.pure rfl rfl rfl (E.PV.load (i := 0) na22 rfl rfl rfl rfl) ?_
      (refine E.OW.call nm121 rfl rfl rfl rfl rfl rfl _ (fun w hw => rValidSlices_ok _ _ g.s w ?_ ?_) ?_; (focus (omega)); (focus (refine hw.rd ?_; assumption)); rintro _ _ ⟨rfl, rfl⟩)
      refine E.OW.pure rfl rfl rfl (E.PV.not rfl rfl) ?_
      refine E.OW.nil ?_
      refine E.then_n ?_
      refine E.CW.cond rfl (fun hc => ?_) (fun hc => ?_)
      · simp only [E.b0, E.b1, E.b2, E.b3, E.b4, E.b5, E.b6, E.b7, E.b8, E.b9, E.b10, E.b11, E.b12, E.b13, E.b14, E.b15, E.b16, E.b17, E.b18, E.b19, E.b20, reduceCtorEq] at hc
        all_goals (
          refine E.CW.seq ?_
          refine E.CW.region ?_
          refine E.OW.pure rfl rfl rfl (E.PV.assign rfl rfl) ?_
          refine E.OW.nil ?_
          refine E.then_n ?_
          refine E.CW.ret ?_
          refine E.then_ret ?_
          refine E.KR.one [] Try.results91 rfl rfl ?_
          exact ⟨congrArg (Value.int .i64) (show (60 : Int) = Cf.check g.q from by unfold Cf.check; rw [if_pos (show Fl.validF g.q.a g.q.b g.q.l = true from hv), if_neg (show ¬ Fl.validS g.q.s = true from by rw [show Fl.validS g.q.s = false from by assumption]; simp)]), rfl⟩)
      · simp only [E.b0, E.b1, E.b2, E.b3, E.b4, E.b5, E.b6, E.b7, E.b8, E.b9, E.b10, E.b11, E.b12, E.b13, E.b14, E.b15, E.b16, E.b17, E.b18, E.b19, E.b20, reduceCtorEq] at hc
        all_goals (
          refine E.CW.skip ?_
          refine E.then_n ?_
          refine E.CW.seq ?_
          refine E.CW.seq ?_
          have hs : Fl.validS g.s = true := by assumption
          refine E.CW.region ?_
          refine E.OW.pure rfl rfl rfl (E.PV.loads (i := 0) is28 rfl rfl rfl rfl) ?_
          (refine E.OW.call nm122 rfl rfl rfl rfl rfl rfl _ (fun w hw => rTs_ok _ w ?_ ?_) ?_; (focus (refine hw.rdC ?_; assumption)); (focus (assumption)); rintro _ _ ⟨rfl, rfl⟩)
          refine E.OW.pure rfl rfl rfl (E.PV.not rfl rfl) ?_
          refine E.OW.nil ?_
          refine E.then_n ?_
          refine E.CW.cond rfl (fun hc => ?_) (fun hc => ?_)
          · simp only [E.b0, E.b1, E.b2, E.b3, E.b4, E.b5, E.b6, E.b7, E.b8, E.b9, E.b10, E.b11, E.b12, E.b13, E.b14, E.b15, E.b16, E.b17, E.b18, E.b19, E.b20, reduceCtorEq] at hc
            all_goals (
              refine E.CW.seq ?_
              refine E.CW.region ?_
              refine E.OW.pure rfl rfl rfl (E.PV.assign rfl rfl) ?_
              refine E.OW.nil ?_
              refine E.then_n ?_
              refine E.CW.ret ?_
              refine E.then_ret ?_
              refine E.KR.one [] Try.results91 rfl rfl ?_
              exact ⟨congrArg (Value.int .i64) (Cf.check_t (g := g.q) hv hs (by assumption)).symm, rfl⟩)
          · simp only [E.b0, E.b1, E.b2, E.b3, E.b4, E.b5, E.b6, E.b7, E.b8, E.b9, E.b10, E.b11, E.b12, E.b13, E.b14, E.b15, E.b16, E.b17, E.b18, E.b19, E.b20, reduceCtorEq] at hc
            all_goals (
              refine E.CW.skip ?_
              refine E.then_n ?_
              refine E.CW.seq ?_
              refine E.CW.seq ?_
              refine E.CW.region ?_
              refine E.OW.pure rfl rfl rfl (E.PV.fieldAddr fa28_3 rfl rfl) ?_
              refine E.OW.pure rfl rfl rfl (E.PV.load (i := 0) na26 rfl rfl rfl rfl) ?_
              refine E.OW.pure rfl rfl rfl (E.PV.gtr rfl rfl rfl) ?_
              refine E.OW.nil ?_
              refine E.then_n ?_
              refine E.CW.cond rfl (fun hc => ?_) (fun hc => ?_)
              · simp only [E.b0, E.b1, E.b2, E.b3, E.b4, E.b5, E.b6, E.b7, E.b8, E.b9, E.b10, E.b11, E.b12, E.b13, E.b14, E.b15, E.b16, E.b17, E.b18, E.b19, E.b20, reduceCtorEq] at hc
                all_goals (
                  refine E.CW.seq ?_
                  refine E.CW.region ?_
                  refine E.OW.pure rfl rfl rfl (E.PV.assign rfl rfl) ?_
                  refine E.OW.nil ?_
                  refine E.then_n ?_
                  refine E.CW.ret ?_
                  refine E.then_ret ?_
                  refine E.KR.one [] Try.results91 rfl rfl ?_
                  exact ⟨congrArg (Value.int .i64) (Cf.check_st (g := g.q) hv hs (by assumption) (by assumption)).symm, rfl⟩)
              · simp only [E.b0, E.b1, E.b2, E.b3, E.b4, E.b5, E.b6, E.b7, E.b8, E.b9, E.b10, E.b11, E.b12, E.b13, E.b14, E.b15, E.b16, E.b17, E.b18, E.b19, E.b20, reduceCtorEq] at hc
                all_goals (
                  refine E.CW.skip ?_
                  refine E.then_n ?_
                  refine E.CW.seq ?_
                  refine E.CW.region ?_
                  refine E.OW.pure rfl rfl rfl (E.PV.assign rfl rfl) ?_
                  refine E.OW.nil ?_
                  refine E.then_n ?_
                  refine E.CW.ret ?_
                  refine E.KR.one [] Try.results91 rfl rfl ?_
                  exact ⟨congrArg (Value.int .i64) (Cf.check_ok (g := g.q) hv hs (by assumption) (by assumption)).symm, rfl⟩))))

set_option maxRecDepth 100000 in
theorem Pn_ok (g : E.Cfg) (t : Int) (w0 : World) (hg : g.rd w0 (E.Old w0)) (hgf : g.q.fit) :
    Calls Try.prog 105 #[g.v, .int .i64 t] w0 (E.Post w0 (E.Old w0) fun v Hn => v = .tuple #[.bool (Cf.presence g.q t).1, .int .i64 (Cf.presence g.q t).2] ∧ Hn = []) := by
  obtain ⟨hX1, hX2, hX3, hX4⟩ := id hg
  have hgl := E.Cfg.fit_len hgf
  have htn := E.Cfg.ts_len g
  refine E.calls_of (vs := [g.v, .int .i64 t]) (H := []) Try.func105 Try.ntmps105 rfl rfl (E.HA.start w0) ?_
  refine E.CW.seq ?_
  refine E.CW.region ?_
  refine E.OW.box rfl rfl rfl rfl rfl rfl (fun B1 => ?_)
  refine E.OW.pure rfl rfl rfl (E.PV.assign rfl rfl) ?_
  refine E.OW.pure rfl rfl rfl (E.PV.assign rfl rfl) ?_
  refine E.OW.nil ?_
  refine E.then_n ?_
  refine E.CW.seq ?_
  refine E.CW.seq ?_
  refine E.CW.region ?_
  refine E.OW.pure rfl rfl rfl (E.PV.loads (i := 0) is28 rfl rfl rfl rfl) ?_
  (refine E.OW.call nm87 rfl rfl rfl rfl rfl rfl _ (fun w hw => Ck_ok _ w ?_ ?_) ?_; (focus (refine hw.rdC ?_; assumption)); (focus (assumption)); rintro _ _ ⟨rfl, rfl⟩)
  refine E.OW.pure rfl rfl rfl (E.PV.assign rfl rfl) ?_
  refine E.OW.nil ?_
  refine E.then_n ?_
  refine E.CW.seq ?_
  refine E.CW.region ?_
  refine E.OW.pure rfl rfl rfl (E.PV.move rfl rfl) ?_
  refine E.OW.pure rfl rfl rfl (E.PV.neq rfl rfl rfl) ?_
  refine E.OW.nil ?_
  refine E.then_n ?_
  refine E.CW.cond rfl (fun hc => ?_) (fun hc => ?_)
  · simp only [E.b0, E.b1, E.b2, E.b3, E.b4, E.b5, E.b6, E.b7, E.b8, E.b9, E.b10, E.b11, E.b12, E.b13, E.b14, E.b15, E.b16, E.b17, E.b18, E.b19, E.b20, reduceCtorEq] at hc
    all_goals (
      refine E.CW.seq ?_
      refine E.CW.region ?_
      refine E.OW.pure rfl rfl rfl (E.PV.move rfl rfl) ?_
      refine E.OW.pure rfl rfl rfl (E.PV.assign rfl rfl) ?_
      refine E.OW.pure rfl rfl rfl (E.PV.assign rfl rfl) ?_
      refine E.OW.nil ?_
      refine E.then_n ?_
      refine E.CW.ret ?_
      refine E.then_ret ?_
      refine E.KR.two [] Try.results105 rfl rfl rfl ?_
      exact ⟨by (have hcc : ¬ Cf.check g.q = 0 := by assumption); simp [Cf.presence, hcc], rfl⟩)
  · simp only [E.b0, E.b1, E.b2, E.b3, E.b4, E.b5, E.b6, E.b7, E.b8, E.b9, E.b10, E.b11, E.b12, E.b13, E.b14, E.b15, E.b16, E.b17, E.b18, E.b19, E.b20, reduceCtorEq] at hc
    all_goals (
      refine E.CW.skip ?_
      refine E.then_n ?_
      refine E.CW.seq ?_
      refine E.CW.seq ?_
      refine E.CW.region ?_
      refine E.OW.pure rfl rfl rfl (E.PV.move rfl rfl) ?_
      refine E.OW.pure rfl rfl rfl (E.PV.lss rfl rfl rfl) ?_
      refine E.OW.pure rfl rfl rfl (E.PV.move rfl rfl) ?_
      all_goals (refine E.OW.split 14 rfl (fun hc => ?_) (fun hc => ?_) <;> (try simp only [E.b0, E.b1, E.b2, E.b3, E.b4, E.b5, E.b6, E.b7, E.b8, E.b9, E.b10, E.b11, E.b12, E.b13, E.b14, E.b15, E.b16, E.b17, E.b18, E.b19, E.b20, reduceCtorEq] at hc) <;> (try (exfalso; first | assumption | contradiction | omega)))
      all_goals (first | (refine E.OW.off rfl rfl rfl ?_) | (refine E.OW.pure rfl rfl rfl (E.PV.move rfl rfl) ?_))
      all_goals (first | (refine E.OW.off rfl rfl rfl ?_) | (refine E.OW.pure rfl rfl rfl (E.PV.fieldAddr fa28_2 rfl rfl) ?_))
      all_goals (first | (refine E.OW.off rfl rfl rfl ?_) | (refine E.OW.pure rfl rfl rfl (E.PV.load (i := 0) na25 rfl rfl rfl rfl) ?_))
      all_goals (first | (refine E.OW.off rfl rfl rfl ?_) | (refine E.OW.pure rfl rfl rfl (E.PV.len Try.underlying25 rfl rfl) ?_))
      all_goals (first | (refine E.OW.off rfl rfl rfl ?_) | (refine E.OW.pure rfl rfl rfl (E.PV.geq rfl rfl rfl) ?_))
      all_goals (first | (refine E.OW.pure rfl rfl rfl (E.PV.pick_t rfl rfl rfl) ?_) | (refine E.OW.pure rfl rfl rfl (E.PV.pick_f rfl rfl rfl) ?_))
      all_goals (
        refine E.OW.nil ?_
        refine E.then_n ?_
        refine E.CW.cond rfl (fun hc => ?_) (fun hc => ?_)
        · simp only [E.b0, E.b1, E.b2, E.b3, E.b4, E.b5, E.b6, E.b7, E.b8, E.b9, E.b10, E.b11, E.b12, E.b13, E.b14, E.b15, E.b16, E.b17, E.b18, E.b19, E.b20, reduceCtorEq] at hc
          all_goals (
            refine E.CW.seq ?_
            refine E.CW.region ?_
            refine E.OW.pure rfl rfl rfl (E.PV.assign rfl rfl) ?_
            refine E.OW.pure rfl rfl rfl (E.PV.assign rfl rfl) ?_
            refine E.OW.nil ?_
            refine E.then_n ?_
            refine E.CW.ret ?_
            refine E.then_ret ?_
            refine E.KR.two [] Try.results105 rfl rfl rfl ?_
            exact ⟨by (have hcc : Cf.check g.q = 0 := by assumption); simp only [Cf.presence, hcc, htn, if_true]; rw [if_pos (by omega)], rfl⟩)
        · first | ((cases hc; done)) | (simp only [E.b0, E.b1, E.b2, E.b3, E.b4, E.b5, E.b6, E.b7, E.b8, E.b9, E.b10, E.b11, E.b12, E.b13, E.b14, E.b15, E.b16, E.b17, E.b18, E.b19, E.b20, reduceCtorEq] at hc)
          all_goals (
            refine E.CW.skip ?_
            refine E.then_n ?_
            refine E.CW.seq ?_
            refine E.CW.region ?_
            refine E.OW.pure rfl rfl rfl (E.PV.loads (i := 0) is28 rfl rfl rfl rfl) ?_
            refine E.OW.pure rfl rfl rfl (E.PV.move rfl rfl) ?_
            (refine E.OW.call nm95 rfl rfl rfl rfl rfl rfl _ (fun w hw => Pr_ok _ _ w ?_ ?_) ?_; (focus (refine hw.rdC ?_; assumption)); (focus (assumption)); rintro _ _ ⟨rfl, rfl⟩)
            refine E.OW.pure rfl rfl rfl (E.PV.assign rfl rfl) ?_
            refine E.OW.pure rfl rfl rfl (E.PV.assign rfl rfl) ?_
            refine E.OW.nil ?_
            refine E.then_n ?_
            refine E.CW.ret ?_
            refine E.KR.two [] Try.results105 rfl rfl rfl ?_
            exact ⟨by (have hcc : Cf.check g.q = 0 := by assumption); simp only [Cf.presence, hcc, htn, if_true]; rw [if_neg (by omega)], rfl⟩)))

set_option maxRecDepth 100000 in
theorem Tt_ok (g : E.Cfg) (w0 : World) (hg : g.rd w0 (E.Old w0)) (hgf : g.q.fit) :
    Calls Try.prog 55 #[g.v] w0 (E.Post w0 (E.Old w0) fun v Hn => ∃ A2 c2, v = .tuple #[.slice A2 ((Cf.tenantsR g.q).1).length c2, .int .i64 (Cf.tenantsR g.q).2] ∧ Hn = [E.HP.row 3 1 A2 ((Cf.tenantsR g.q).1).length c2 (E.ints ((Cf.tenantsR g.q).1))]) := by
  obtain ⟨hX1, hX2, hX3, hX4⟩ := id hg
  have hgl := E.Cfg.fit_len hgf
  have htn := E.Cfg.ts_len g
  refine E.calls_of (vs := [g.v]) (H := []) Try.func55 Try.ntmps55 rfl rfl (E.HA.start w0) ?_
  refine E.CW.seq ?_
  refine E.CW.region ?_
  refine E.OW.box rfl rfl rfl rfl rfl rfl (fun B1 => ?_)
  refine E.OW.pure rfl rfl rfl (E.PV.assign rfl rfl) ?_
  refine E.OW.pure rfl rfl rfl (E.PV.assign rfl rfl) ?_
  refine E.OW.nil ?_
  refine E.then_n ?_
  refine E.CW.seq ?_
  refine E.CW.seq ?_
  refine E.CW.region ?_
  refine E.OW.pure rfl rfl rfl (E.PV.loads (i := 0) is28 rfl rfl rfl rfl) ?_
  (refine E.OW.call nm87 rfl rfl rfl rfl rfl rfl _ (fun w hw => Ck_ok _ w ?_ ?_) ?_; (focus (refine hw.rdC ?_; assumption)); (focus (assumption)); rintro _ _ ⟨rfl, rfl⟩)
  refine E.OW.pure rfl rfl rfl (E.PV.assign rfl rfl) ?_
  refine E.OW.nil ?_
  refine E.then_n ?_
  refine E.CW.seq ?_
  refine E.CW.region ?_
  refine E.OW.pure rfl rfl rfl (E.PV.move rfl rfl) ?_
  refine E.OW.pure rfl rfl rfl (E.PV.neq rfl rfl rfl) ?_
  refine E.OW.nil ?_
  refine E.then_n ?_
  refine E.CW.cond rfl (fun hc => ?_) (fun hc => ?_)
  · simp only [E.b0, E.b1, E.b2, E.b3, E.b4, E.b5, E.b6, E.b7, E.b8, E.b9, E.b10, E.b11, E.b12, E.b13, E.b14, E.b15, E.b16, E.b17, E.b18, E.b19, E.b20, reduceCtorEq] at hc
    all_goals (
      refine E.CW.seq ?_
      refine E.CW.nilrow 3 1 ?_
      refine E.CW.region ?_
      refine E.OW.pure rfl rfl rfl (E.PV.move rfl rfl) ?_
      refine E.OW.pure rfl rfl rfl (E.PV.assign rfl rfl) ?_
      refine E.OW.pure rfl rfl rfl (E.PV.assign rfl rfl) ?_
      refine E.OW.nil ?_
      refine E.then_n ?_
      refine E.CW.ret ?_
      refine E.then_ret ?_
      refine E.KR.two [0] Try.results55 rfl rfl rfl ?_
      rw [show Cf.tenantsR g.q = ([], Cf.check g.q) from if_neg (by assumption)]
      exact ⟨none, 0, rfl, rfl⟩)
  · simp only [E.b0, E.b1, E.b2, E.b3, E.b4, E.b5, E.b6, E.b7, E.b8, E.b9, E.b10, E.b11, E.b12, E.b13, E.b14, E.b15, E.b16, E.b17, E.b18, E.b19, E.b20, reduceCtorEq] at hc
    all_goals (
      refine E.CW.skip ?_
      refine E.then_n ?_
      refine E.CW.seq ?_
      refine E.CW.region ?_
      refine E.OW.pure rfl rfl rfl (E.PV.loads (i := 0) is28 rfl rfl rfl rfl) ?_
      (refine E.OW.call nm98 rfl rfl rfl rfl rfl rfl _ (fun w hw => Tn_ok _ w ?_ ?_) ?_; (focus (refine hw.rdC ?_; assumption)); (focus (assumption)); rintro _ _ ⟨AT, cT, rfl, rfl⟩)
      refine E.OW.pure rfl rfl rfl (E.PV.assign rfl rfl) ?_
      refine E.OW.pure rfl rfl rfl (E.PV.assign rfl rfl) ?_
      refine E.OW.nil ?_
      refine E.then_n ?_
      refine E.CW.ret ?_
      refine E.KR.two [0] Try.results55 rfl rfl rfl ?_
      rw [show Cf.tenantsR g.q = (Cf.tenants g.q.ts g.ts.length, 0) from (if_pos (by assumption)).trans (by rw [htn])]
      exact ⟨_, _, rfl, rfl⟩)
end Go.Proofs.Ytflkbabhbnmajaa

/- Slices of teams that the function makes and writes; teams and configs that hold nothing; a slice compared with nil. No program in sight. -/
namespace Go.Proofs.Ytflkbabhbnmajaa
namespace E
open Go Go.RowKit
set_option linter.unusedSimpArgs false
set_option linter.unusedVariables false
section
variable {P : Program} {n : Fr} {w0 : World} {F : Nat → Prop} {K : Kt} {l : Env} {H : List HP} {o : Oper}

theorem tms_set : ∀ {ts : List Tm} {j : Nat} {m : Tm}, j < ts.length → tms (ts.set j m) = (tms ts).take (j * 8) ++ m.cells ++ (tms ts).drop (j * 8 + 8) := by
  intro ts
  induction ts with
  | nil => intro j m h; simp at h
  | cons q r ih =>
    intro j m h
    have h8 : q.cells.length = 8 := rfl
    cases j with
    | zero =>
      simp only [List.set_cons_zero, tms, Nat.zero_mul, List.take_zero, List.nil_append, Nat.zero_add]
      rw [List.drop_append, h8, Nat.sub_self, List.drop_of_length_le (by omega)]
      simp
    | succ j =>
      have e1 : (q.cells ++ tms r).take ((j + 1) * 8) = q.cells ++ (tms r).take (j * 8) := by
        rw [List.take_append, h8, List.take_of_length_le (by omega), show (j + 1) * 8 - 8 = j * 8 by omega]
      have e2 : (q.cells ++ tms r).drop ((j + 1) * 8 + 8) = (tms r).drop (j * 8 + 8) := by
        rw [List.drop_append, h8, List.drop_of_length_le (by omega), show (j + 1) * 8 + 8 - 8 = j * 8 + 8 by omega, List.nil_append]
      simp only [List.set_cons_succ, tms]
      rw [e1, e2, ih (by simpa using h)]
      simp only [List.append_assoc]
theorem take_splice {α : Type} (xs ys : List α) (a n : Nat) (h1 : a + ys.length ≤ n) (h2 : n ≤ xs.length) : (xs.take a ++ ys ++ xs.drop (a + ys.length)).take n = (xs.take n).take a ++ ys ++ (xs.take n).drop (a + ys.length) := by
  have hl : (xs.take a ++ ys).length = a + ys.length := by rw [List.length_append, List.length_take, Nat.min_eq_left (by omega)]
  rw [List.take_append, hl, List.take_of_length_le (by omega : (xs.take a ++ ys).length ≤ n), List.take_take, Nat.min_eq_left (by omega), List.drop_take]
theorem erase_perm {α : Type} : ∀ {l : List α} {j : Nat} (h : j < l.length), l.Perm (l[j] :: l.eraseIdx j) := by
  intro l
  induction l with
  | nil => intro j h; simp at h
  | cons a r ih =>
    intro j h
    cases j with
    | zero => exact List.Perm.refl _
    | succ j =>
      simp only [List.getElem_cons_succ, List.eraseIdx_cons_succ]
      exact ((ih (by simpa using h)).cons a).trans (List.Perm.swap _ _ _)

/-- a team stored into a slice of teams of the function's own. -/
theorem OW.store_tm {ops : Array Oper} {rest : List Oper} {t : TypeId} {x y : Operand} {Et i m c j : Nat} {A : Option Addr} {q : Tm} {ts : List Tm} {H' : List HP} (hsz : ∀ w, (sizeOf t).run P w = .ok 8 w) (ho : o.op = .store t x y)
    (hg : gd ops l o.guard = some true) (hd : o.dst = none) (hx : ev l x = some (eptr A (j * 8))) (hy : ev l y = some q.v)
    (hi : sel H i = some (HP.row Et 8 A m c (tms ts), H')) (hj : j < m) (hm : ts.length = m) (k : OW P n w0 F ops K rest l (HP.row Et 8 A m c (tms (ts.set j q)) :: H')) : OW P n w0 F ops K (o :: rest) l H :=
  OW.act hg hd (fun a w ha hw => by
    have hown := hw.row hi
    rcases hown.2 with ⟨hv, hm0⟩ | ⟨g, cap, cur, hv, _, hgg, hnc, hcap, hcs, htk⟩
    · omega
    · injection hv with hA _ hcc
      subst hA hcc
      have hx' : ev l x = some (.pointer (some ⟨g, j * 8, .none⟩)) := by
        rw [hx]
        unfold eptr
        simp only [Option.map_some, Option.some.injEq, Value.pointer.injEq]
        unfold Addr.add
        split <;> simp_all
      have h8 : q.cells.length = 8 := rfl
      have hst := run_storeCells_at P g (j * 8) Et q.cells 0 cur w hgg (by rw [h8]; omega) (fun u hu => q.one u hu)
      refine ⟨w.setRow g (cur.toList.take (j * 8) ++ q.cells ++ cur.toList.drop (j * 8 + 8)).toArray, ?_, ?_⟩
      · have hc : q.v.cells = q.cells.toArray := rfl
        simp [execOp, ho, ha.ev hx', ha.ev hy, Instr.storeAt, Instr.sureAddr, storeVar, hc, h8, hsz w]
        simp [h8] at hst
        rw [hst]
        rfl
      · refine (hw.sel hi).regrow (A := some ⟨g, 0, .none⟩) (A' := some ⟨g, 0, .none⟩) (m := m) (m' := m) (c := c) (c' := c) (xs := tms ts) ?_ ?_ (.inl rfl)
        · refine ⟨rfl, rfl, rfl, by simp [World.setRow], fun k hk hne => ?_⟩
          simp only [World.setRow, Array.getElem?_modify]
          rw [if_neg (fun e => hne (by simp [Value.ownBlock, e]))]
        · refine ⟨by simp [hm], .inr ⟨g, c, _, rfl, Nat.zero_le _, setRow_heap w g cur _ Et _ hgg, hnc, hcap, ?_, ?_⟩⟩
          · simp only [List.size_toArray, List.length_append, List.length_take, List.length_drop, Array.length_toList, h8]
            omega
          · have hs := take_splice cur.toList q.cells (j * 8) (m * 8) (by rw [h8]; omega) (by simp only [Array.length_toList]; rw [hcs]; omega)
            rw [h8] at hs
            rw [tms_set (by omega), ← htk, List.toList_toArray]
            exact hs) k

/-! ### Nothing -/
theorem Chunks.tms_z {w : World} {U : Nat → Prop} {r : List HP} (k : Nat) (h : Chunks w U r) : Chunks w U (HP.tms (List.replicate k Tm.z) :: r) := by
  refine ⟨fun _ => False, ?_, fun _ hk => hk.elim, h.congr fun q => by simp⟩
  show bagS w (fun _ => False) ((List.replicate k Tm.z).map HP.tm)
  have hrow : (HP.row 3 1 .none 0 0 []).sem (fun _ => False) w := ⟨fun k => by simp [Value.ownBlock], World.ownsRow_nil w 0 3 1⟩
  have hz : (HP.tm Tm.z).sem (fun _ => False) w :=
    ⟨fun _ => False, fun _ => False, fun _ => by simp, fun _ h => h.elim, hrow, fun _ => False, fun _ => False, fun _ => by simp, fun _ h => h.elim, hrow, fun _ => False, fun _ => False, fun _ => by simp, fun _ h => h.elim, hrow, fun _ h => h⟩
  induction k with
  | zero => exact fun _ h => h
  | succ k ih => exact ⟨fun _ => False, fun _ => False, fun _ => by simp, fun _ h => h.elim, hz, ih⟩
theorem CW.tmsz {c : Code} (k : Nat) (h : CW P n w0 F c K l (HP.tms (List.replicate k Tm.z) :: H)) : CW P n w0 F c K l H := CW.conv (fun w U hc => Chunks.tms_z k hc) h
/-- the j-th team becomes another one. -/
theorem CW.tmsput {c : Code} {H1 : List HP} {m : Tm} {ts : List Tm} (i k j : Nat) {H2 : List HP} (hi : sel H i = some (HP.tm m, H1)) (hk : sel H1 k = some (HP.tms ts, H2)) (hj : j < ts.length) (h : CW P n w0 F c K l (HP.tms (ts.set j m) :: H2)) : CW P n w0 F c K l H := fun a w ha hw => by
  have h1 := hw.perm ((sel_perm hi).trans ((sel_perm hk).cons _))
  refine h a w ha { h1 with chunks := ?_ }
  obtain ⟨S, g1, b1, T, g2, b2, g3⟩ := h1.chunks
  have hp : (ts.map HP.tm).Perm (HP.tm ts[j] :: (ts.eraseIdx j).map HP.tm) := by
    rw [← List.map_cons]; exact (erase_perm hj).map _
  have hq : (HP.tm m :: (ts.eraseIdx j).map HP.tm).Perm ((ts.set j m).map HP.tm) := by
    rw [← List.map_cons]
    refine List.Perm.map _ ?_
    have := (erase_perm (l := ts.set j m) (j := j) (by simpa using hj)).symm
    rwa [List.getElem_set_self, List.eraseIdx_set_eq] at this
  obtain ⟨T1, T2, e1, e2, e3, e4⟩ := bagS_perm hp g2
  refine ⟨fun q => S q ∨ T2 q, bagS_perm hq ⟨S, T2, fun _ => Iff.rfl, fun q hq ht => (b2 q ((e1 q).2 (.inr ht))).2 (.inr hq), g1, e4⟩, fun q hq => ?_, g3.mono fun q hq => ?_⟩
  · rcases hq with hq | hq
    · exact b1 q hq
    · have := b2 q ((e1 q).2 (.inr hq))
      exact ⟨this.1, fun hu => this.2 (.inl hu)⟩
  · rcases hq with hq | hq | hq
    · exact .inl (.inl hq)
    · exact .inl (.inr hq)
    · exact .inr ((e1 q).2 (.inr hq))
def Cfg.z : Cfg := ⟨0, 0, [], [], [], 0, .none, 0, .none, 0, .none, 0⟩
theorem Chunks.cfg_z {w : World} {U : Nat → Prop} {r : List HP} (h : Chunks w U r) : Chunks w U (HP.cfg Cfg.z :: r) := by
  refine ⟨fun _ => False, ?_, fun _ hk => hk.elim, h.congr fun q => by simp⟩
  have hrow : ∀ e s, (HP.row e s .none 0 0 []).sem (fun _ => False) w := fun e s => ⟨fun k => by simp [Value.ownBlock], World.ownsRow_nil w 0 e s⟩
  exact ⟨fun _ => False, fun _ => False, fun _ => by simp, fun _ h => h.elim, hrow 5 1, fun _ => False, fun _ => False, fun _ => by simp, fun _ h => h.elim, hrow 5 1, fun _ => False, fun _ => False, fun _ => by simp, fun _ h => h.elim, hrow 79 8,
    fun _ => False, fun _ => False, fun _ => by simp, fun _ h => h.elim, (fun _ h => h), fun _ h => h⟩
theorem CW.cfgz {c : Code} (h : CW P n w0 F c K l (HP.cfg Cfg.z :: H)) : CW P n w0 F c K l H := CW.conv (fun w U hc => Chunks.cfg_z hc) h
end
end E
namespace Cf
/-! ### A list whose entries are turned one after the other -/
def upd (f : UInt8 → UInt8) (l : List UInt8) (k : Nat) : List UInt8 := (l.take k).map f ++ l.drop k
@[simp] theorem upd_len (f : UInt8 → UInt8) (l : List UInt8) (k : Nat) : (upd f l k).length = l.length := by simp [upd]; omega
theorem upd_zero (f : UInt8 → UInt8) (l : List UInt8) : upd f l 0 = l := by simp [upd]
theorem upd_end (f : UInt8 → UInt8) (l : List UInt8) : upd f l l.length = l.map f := by simp [upd]
theorem upd_get {f : UInt8 → UInt8} {l : List UInt8} {k : Nat} (h : k < l.length) : (upd f l k).getD k 0 = l.getD k 0 := by
  unfold upd
  rw [List.getD_eq_getElem?_getD, List.getElem?_append_right (by simp; omega), List.length_map, List.length_take, Nat.min_eq_left (by omega), Nat.sub_self, List.getElem?_drop, Nat.add_zero, ← List.getD_eq_getElem?_getD]
theorem upd_step {f : UInt8 → UInt8} {l : List UInt8} {k : Nat} (h : k < l.length) {x : UInt8} (e : f (l.getD k 0) = x) : (upd f l k).set k x = upd f l (k + 1) := by
  subst e
  unfold upd
  rw [List.take_add_one, List.getElem?_eq_getElem h, Option.toList_some, List.map_append, List.set_append_right _ _ (by simp; omega), List.length_map, List.length_take, Nat.min_eq_left (by omega), Nat.sub_self, List.drop_eq_getElem_cons h, List.set_cons_zero]
  simp only [List.getD, List.getElem?_eq_getElem h, Option.getD_some, List.map_cons, List.map_nil, List.append_assoc, List.cons_append, List.nil_append]
theorem upd_same {f : UInt8 → UInt8} {l : List UInt8} {k : Nat} (h : k < l.length) (e : f (l.getD k 0) = l.getD k 0) : upd f l k = upd f l (k + 1) := by
  rw [← upd_step h rfl, e]
  apply List.ext_getElem?
  intro i
  rw [List.getElem?_set]
  split
  · rename_i hi
    subst hi
    have := upd_get (f := f) h
    rw [← this, List.getD_eq_getElem?_getD, List.getElem?_eq_getElem (by simpa using h)]
    simp [h]
  · rfl
theorem map_succ {f : UInt8 → UInt8} {l : List UInt8} {k : Nat} (h : k < l.length) {x : UInt8} (e : f (l.getD k 0) = x) : (l.take k).map f ++ [x] = (l.take (k + 1)).map f := by
  subst e
  rw [List.take_add_one, List.getElem?_eq_getElem h, Option.toList_some, List.map_append]
  simp [List.getD, h]
def oc (t : Int) (v : UInt8) : UInt8 := if (v.toNat : Int) = t + 1 ∨ (v.toNat : Int) = 255 then v else 0
def os (t : Int) (v : UInt8) : UInt8 := if (v.toNat : Int) = t + 1 then v else 0
def oneTeam (ts : List T) (t : Int) (k : Nat) : List T := (List.range k).map fun (i : Nat) => if (i : Int) = t then ts.getD i T.z else T.z
def only (g : C) (t : Int) : C := ⟨g.a, g.b, g.l.map (oc t), g.s.map (os t), oneTeam g.ts t g.ts.length, g.st⟩
def zero : C := ⟨0, 0, [], [], [], 0⟩
theorem oneTeam_succ (ts : List T) (t : Int) (k : Nat) : oneTeam ts t (k + 1) = oneTeam ts t k ++ [if (k : Int) = t then ts.getD k T.z else T.z] := by
  unfold oneTeam; rw [List.range_succ, List.map_append]; rfl
theorem oneTeam_set {ts : List T} {t : Int} (h : 0 ≤ t ∧ t < ts.length) : (List.replicate ts.length T.z).set t.toNat (ts.getD t.toNat T.z) = oneTeam ts t ts.length := by
  apply List.ext_getElem (by simp [oneTeam])
  intro i h1 h2
  simp only [oneTeam, List.getElem_map, List.getElem_range, List.getElem_set, List.getElem_replicate]
  by_cases hi : t.toNat = i
  · rw [if_pos hi, if_pos (by omega), hi]
  · rw [if_neg hi, if_neg (by omega)]
end Cf
end Go.Proofs.Ytflkbabhbnmajaa

/- The projection of a config, plainly. -/
namespace Go.Proofs.Ytflkbabhbnmajaa
set_option linter.unusedVariables false
namespace Cf
def onlyR (g : C) (t : Int) : C × Int := if check g = 0 then (if present g.ts t then (only g t, 0) else (zero, 2)) else (zero, check g)
theorem check_zero {g : C} (h : check g = 0) : Fl.validF g.a g.b g.l = true ∧ Fl.validS g.s = true ∧ teamsOk g = true ∧ g.st ≤ 4611686018427387904 := by
  unfold check at h
  split at h
  · rename_i h1
    split at h
    · rename_i h2
      split at h
      · rename_i h3
        split at h
        · rename_i h4; exact ⟨h1, h2, h3, h4⟩
        · cases h
      · cases h
    · cases h
  · cases h
theorem teams_len {g : C} (h : teamsOk g = true) : 1 ≤ g.ts.length ∧ g.ts.length ≤ 3 := by
  unfold teamsOk at h
  simp only [Bool.and_eq_true, decide_eq_true_eq] at h
  exact ⟨h.1.1.1.1.1, h.1.1.1.1.2⟩
end Cf
namespace E
def Tm.sz (m : Tm) : Prop := m.q.h.length ≤ 140737488351232 ∧ m.q.p.length ≤ 140737488351232 ∧ m.q.d.length ≤ 140737488351232
section
variable {P : Program} {n : Fr} {w0 : World} {F : Nat → Prop} {K : Kt} {l : Env} {H : List HP}
theorem CW.heq {c : Code} {H' : List HP} (h : H = H') (k : CW P n w0 F c K l H') : CW P n w0 F c K l H := by rw [h]; exact k
theorem CW.chunk {c : Code} (i : Nat) {p : HP} (p' : HP) {H' : List HP} (hi : sel H i = some (p, H')) (he : p = p') (k : CW P n w0 F c K l (p' :: H')) : CW P n w0 F c K l H := fun a w ha hw => k a w ha (he ▸ hw.sel hi)
/-- the j-th team taken out. -/
theorem CW.tmsget {c : Code} (i j : Nat) {ts : List Tm} {H' : List HP} (hi : sel H i = some (HP.tms ts, H')) (hj : j < ts.length) (h : CW P n w0 F c K l (HP.tm (ts.getD j Tm.z) :: HP.tms (ts.set j Tm.z) :: H')) : CW P n w0 F c K l H := fun a w ha hw => by
  have h1 := hw.sel hi
  refine h a w ha { h1 with chunks := ?_ }
  obtain ⟨S, g1, b1, g3⟩ := h1.chunks
  have hp : (ts.map HP.tm).Perm (HP.tm (ts.getD j Tm.z) :: (ts.eraseIdx j).map HP.tm) := by
    have e : ts.getD j Tm.z = ts[j] := by simp [List.getD, hj]
    rw [e, ← List.map_cons]; exact (erase_perm hj).map _
  have hq : (HP.tm Tm.z :: (ts.eraseIdx j).map HP.tm).Perm ((ts.set j Tm.z).map HP.tm) := by
    rw [← List.map_cons]
    refine List.Perm.map _ ?_
    have := (erase_perm (l := ts.set j Tm.z) (j := j) (by simpa using hj)).symm
    rwa [List.getElem_set_self, List.eraseIdx_set_eq] at this
  obtain ⟨T1, T2, e1, e2, e3, e4⟩ := bagS_perm hp g1
  have hrow : (HP.row 3 1 .none 0 0 []).sem (fun _ => False) w := ⟨fun k => by simp [Value.ownBlock], World.ownsRow_nil w 0 3 1⟩
  have hz : (HP.tm Tm.z).sem (fun _ => False) w :=
    ⟨fun _ => False, fun _ => False, fun _ => by simp, fun _ h => h.elim, hrow, fun _ => False, fun _ => False, fun _ => by simp, fun _ h => h.elim, hrow, fun _ => False, fun _ => False, fun _ => by simp, fun _ h => h.elim, hrow, fun _ h => h⟩
  refine ⟨T1, e3, fun q hq => b1 q ((e1 q).2 (.inl hq)), T2, bagS_perm hq ⟨fun _ => False, T2, fun _ => by simp, fun _ h => h.elim, hz, e4⟩, fun q hq => ⟨(b1 q ((e1 q).2 (.inr hq))).1, ?_⟩, g3.congr fun q => ?_⟩
  · rintro (hu | ht)
    · exact (b1 q ((e1 q).2 (.inr hq))).2 hu
    · exact e2 q ht hq
  · rw [e1 q, or_assoc]
theorem tms_same : ∀ {ts : List Tm} {j : Nat} {m : Tm}, m.cells = (ts.getD j Tm.z).cells → tms (ts.set j m) = tms ts := by
  intro ts
  induction ts with
  | nil => intro j m _; rfl
  | cons q r ih =>
    intro j m h
    cases j with
    | zero => simp only [List.set_cons_zero, tms]; rw [h]; rfl
    | succ j => simp only [List.set_cons_succ, tms]; rw [ih (by simpa using h)]
theorem CW.tmz {c : Code} (k : CW P n w0 F c K l (HP.tm Tm.z :: H)) : CW P n w0 F c K l H := CW.conv (fun w U hc => by
  have hrow : (HP.row 3 1 .none 0 0 []).sem (fun _ => False) w := ⟨fun k => by simp [Value.ownBlock], World.ownsRow_nil w 0 3 1⟩
  exact ⟨fun _ => False, ⟨fun _ => False, fun _ => False, fun _ => by simp, fun _ h => h.elim, hrow, fun _ => False, fun _ => False, fun _ => by simp, fun _ h => h.elim, hrow, fun _ => False, fun _ => False, fun _ => by simp, fun _ h => h.elim, hrow, fun _ h => h⟩,
    fun _ h => h.elim, hc.congr fun k => by simp⟩) k
end
end E
end Go.Proofs.Ytflkbabhbnmajaa

/- A writer behind a pointer, numbers as bytes, and the encoding of a config. No program in sight. -/
namespace Go.Proofs.Ytflkbabhbnmajaa
set_option linter.unusedSimpArgs false
set_option linter.unusedVariables false
namespace Cf
open Go
def byt (n : Int) : UInt8 := UInt8.ofNat (n % 256).toNat
def encL (l : List Int) : List UInt8 := byt l.length :: l.map byt
def nums (t : T) : List Int := [t.n1, t.n2, t.n3, t.n4, t.n5]
def encT (t : T) : List UInt8 := encL t.h ++ if t.h.length = 0 then [] else encL t.p ++ encL t.d ++ (nums t).map byt
def encTs (ts : List T) (k : Nat) : List UInt8 := (ts.take k).flatMap encT
def be (n : Int) (k : Nat) : List UInt8 := (List.range k).map fun (i : Nat) => byt (n / 256 ^ (7 - i))
def head (g : C) : List UInt8 := [byt g.a, byt g.b] ++ g.l ++ [byt g.s.length] ++ g.s ++ [byt g.ts.length]
def enc (g : C) : List UInt8 := head g ++ encTs g.ts g.ts.length ++ be g.st 8
def encR (g : C) : List UInt8 × Int := if check g = 0 then (enc g, 0) else ([], check g)
theorem encTs_succ {ts : List T} {k : Nat} (h : k < ts.length) : encTs ts (k + 1) = encTs ts k ++ encT (ts.getD k T.z) := by
  unfold encTs
  rw [List.take_add_one, List.getElem?_eq_getElem h, Option.toList_some, List.flatMap_append]
  simp [List.getD, h]
theorem div_b {n : Int} (hn : 0 ≤ n ∧ n < 18446744073709551616) (j : Nat) : 0 ≤ n / 256 ^ j ∧ n / 256 ^ j < 18446744073709551616 := by
  have hp : (0 : Int) < 256 ^ j := Int.pow_pos (by omega)
  refine ⟨Int.ediv_nonneg hn.1 (by omega), ?_⟩
  have := Int.ediv_le_self (256 ^ j) hn.1
  omega
/-- the lengths of a valid team's lists. -/
def small (t : T) : Prop := t.h.length ≤ 3 ∧ t.p.length ≤ 3 ∧ t.d.length ≤ 3
theorem team_small {g : C} {t : T} (hk : teamsOk g = true) (ht : t ∈ g.ts) : small t := by
  obtain ⟨i, hi, rfl⟩ := List.getElem_of_mem ht
  unfold teamsOk at hk
  simp only [Bool.and_eq_true, List.all_eq_true, List.mem_range] at hk
  have := hk.1.1.1.2 i hi
  unfold teamOk at this
  have e : g.ts.getD i T.z = g.ts[i] := by simp [List.getD, hi]
  rw [e, Bool.or_eq_true] at this
  rcases this with h | h
  · have : g.ts[i] = T.z := of_decide_eq_true h
    rw [this]; exact ⟨by simp [T.z], by simp [T.z], by simp [T.z]⟩
  · unfold validTeam at h
    simp only [Bool.and_eq_true] at h
    have := numbers_len h.1.1
    exact ⟨this.1.2, this.2.1.2, this.2.2.2⟩
theorem encT_len {t : T} (h : small t) : (encT t).length ≤ 17 := by
  unfold encT encL nums
  obtain ⟨h1, h2, h3⟩ := h
  split <;> simp only [List.length_append, List.length_cons, List.length_map, List.length_nil] <;> omega
theorem encTs_len {ts : List T} (h : ∀ t ∈ ts, small t) : ∀ k, k ≤ ts.length → (encTs ts k).length ≤ 17 * k := by
  intro k
  induction k with
  | zero => intro _; simp [encTs]
  | succ k ih =>
    intro hk
    rw [encTs_succ (by omega), List.length_append]
    have h1 := ih (by omega)
    have h2 := encT_len (h (ts.getD k T.z) (by rw [List.getD_eq_getElem?_getD, List.getElem?_eq_getElem (show k < ts.length by omega), Option.getD_some]; exact List.getElem_mem _))
    omega
theorem head_len {g : C} (h : check g = 0) : (head g).length ≤ 90 := by
  have hz := check_zero h
  have h1 := Fl.validF_len hz.1
  have h2 := (Fl.validS_iff.1 hz.2.1).1
  unfold head
  simp only [List.length_append, List.length_cons, List.length_nil]
  omega
theorem all_small {g : C} (h : check g = 0) : ∀ t ∈ g.ts, small t := fun t ht => team_small (check_zero h).2.2.1 ht
theorem hdts_len {g : C} (h : check g = 0) {k : Nat} (hk : k ≤ g.ts.length) : (head g ++ encTs g.ts k).length ≤ 200 := by
  have h1 := head_len h
  have h2 := encTs_len (all_small h) k hk
  have h3 := teams_len (check_zero h).2.2.1
  rw [List.length_append]
  omega
end Cf
namespace E
open Go Go.RowKit
section
variable {P : Program} {n : Fr} {w0 : World} {F : Nat → Prop} {K : Kt} {l : Env} {H : List HP} {o : Oper}
theorem PV.nilCheck {x : Operand} {ad : Addr} (ho : o.op = .nilCheck x) (hx : ev l x = some (.pointer (some ad))) : PV P n w0 F l H o (.pointer (some ad)) := fun a w ha _ => by
  simp [execOp, ho, ha.ev hx]
theorem PV.shr {t t' : TypeId} {x y : Operand} {k yk : IntKind} {p q : Int} (ho : o.op = .binOp .shr t x y t') (hx : ev l x = some (.int k p)) (hy : ev l y = some (.int yk q)) (hq : 0 ≤ q) : PV P n w0 F l H o (.int k (p / 2 ^ min q.toNat k.bits)) :=
  PV.bin ho hx hy eg_int fun w => by
    rw [show binOp .shr t (.int k p) (.int yk q) = Op.shift .shr k p yk q from by simp [binOp], shift_shr_any k yk p q hq]; rfl
theorem PV.quo_u64 {t t' : TypeId} {x y : Operand} {p q : Int} (ho : o.op = .binOp .quo t x y t') (hx : ev l x = some (.int .u64 p)) (hy : ev l y = some (.int .u64 q)) (hp : 0 ≤ p ∧ p < 18446744073709551616) (hq : 0 < q) :
    PV P n w0 F l H o (.int .u64 (p / q)) :=
  PV.bin ho hx hy eg_int fun w => by
    have h1 : p.tdiv q = p / q := Int.tdiv_eq_ediv_of_nonneg hp.1
    have h2 : 0 ≤ p / q := Int.ediv_nonneg hp.1 (by omega)
    have h3 : p / q ≤ p := Int.ediv_le_self _ hp.1
    have : IntKind.u64.wrap (p / q) = p / q := by rw [IntKind.wrap_u64]; omega
    rw [binOp_quo]
    simp [Op.intDiv, show q ≠ 0 by omega, h1, this]

/-- a writer: its block and its bytes. -/
def HP.wrt (B : Nat) (bs : List UInt8) : HP where
  sem S w := ∃ A c, (HP.bag [HP.blk B 107 [.slice A bs.length c], HP.row 5 1 A bs.length c (u8s bs)]).sem S w
  loc := fun S w w' h ⟨A, c, hb⟩ => ⟨A, c, (HP.bag _).loc S w w' h hb⟩
theorem CW.wrtin {c : Code} (i j : Nat) {B cc : Nat} {A : Option Addr} {bs : List UInt8} {H1 H2 : List HP} (hi : sel H i = some (HP.blk B 107 [.slice A bs.length cc], H1)) (hj : sel H1 j = some (HP.row 5 1 A bs.length cc (u8s bs), H2)) (k : CW P n w0 F c K l (HP.wrt B bs :: H2)) : CW P n w0 F c K l H := fun a w ha hw => by
  have h1 := hw.perm ((sel_perm hi).trans ((sel_perm hj).cons _))
  refine k a w ha { h1 with chunks := ?_ }
  have h2 := Chunks.gather (ps := [HP.blk B 107 [.slice A bs.length cc], HP.row 5 1 A bs.length cc (u8s bs)]) (r := H2) h1.chunks
  obtain ⟨S, g1, g2, g3⟩ := h2
  exact ⟨S, ⟨A, cc, g1⟩, g2, g3⟩
theorem CW.wrtout {c : Code} (i : Nat) {B : Nat} {bs : List UInt8} {H1 : List HP} (hi : sel H i = some (HP.wrt B bs, H1)) (k : ∀ A cc, CW P n w0 F c K l (HP.blk B 107 [.slice A bs.length cc] :: HP.row 5 1 A bs.length cc (u8s bs) :: H1)) : CW P n w0 F c K l H := fun a w ha hw => by
  have h1 := hw.sel hi
  obtain ⟨S, ⟨A, cc, g1⟩, g2, g3⟩ := h1.chunks
  exact k A cc a w ha { h1 with chunks := Chunks.open (ps := [HP.blk B 107 [.slice A bs.length cc], HP.row 5 1 A bs.length cc (u8s bs)]) ⟨S, g1, g2, g3⟩ }
theorem OW.wrtin {ops : Array Oper} {rest : List Oper} (i j : Nat) {B cc : Nat} {A : Option Addr} {bs : List UInt8} {H1 H2 : List HP} (hi : sel H i = some (HP.blk B 107 [.slice A bs.length cc], H1)) (hj : sel H1 j = some (HP.row 5 1 A bs.length cc (u8s bs), H2)) (k : OW P n w0 F ops K rest l (HP.wrt B bs :: H2)) : OW P n w0 F ops K rest l H := fun a w ha hw => by
  have h1 := hw.perm ((sel_perm hi).trans ((sel_perm hj).cons _))
  refine k a w ha { h1 with chunks := ?_ }
  obtain ⟨S, g1, g2, g3⟩ := Chunks.gather (ps := [HP.blk B 107 [.slice A bs.length cc], HP.row 5 1 A bs.length cc (u8s bs)]) (r := H2) h1.chunks
  exact ⟨S, ⟨A, cc, g1⟩, g2, g3⟩
/-- the frame of a function that may turn the chunk p alone. -/
def Fm (w : World) (S : Nat → Prop) : Nat → Prop := fun k => k < w.heap.size ∧ ¬ S k
theorem HA.startM {w : World} {S : Nat → Prop} {p : HP} (hS : p.sem S w) (hb : ∀ k, S k → k < w.heap.size) : HA w (Fm w S) [p] w :=
  ⟨rfl, rfl, rfl, Nat.le_refl _, fun _ h => h.1, fun _ _ => rfl, S, hS, fun k hk => ⟨hb k hk, fun h => h.2 hk⟩, trivial⟩
theorem HA.rdM {w : World} (h : HA w0 F H w) {A : Option Addr} {xs : List Value} (hr : Rd w0 F A xs) {S : Nat → Prop} (hb : ∀ k, S k → k < w.heap.size ∧ ¬ F k) : Rd w (Fm w S) A xs := fun hx => by
  obtain ⟨ad, rfl, hg, hc⟩ := hr hx
  refine ⟨ad, rfl, ⟨Nat.lt_of_lt_of_le (h.flt _ hg) h.size, fun hs => (hb _ hs).2 hg⟩, fun j u hu => ?_⟩
  rw [World.cell?_of_block (w := w0) (a := ad.add j) (by rw [Addr.add_block]; exact h.kept _ hg)]
  exact hc j u hu
theorem HA.rdTM {w : World} (h : HA w0 F H w) {m : Tm} (hr : m.rd w0 F) {S : Nat → Prop} (hb : ∀ k, S k → k < w.heap.size ∧ ¬ F k) : m.rd w (Fm w S) := ⟨h.rdM hr.1 hb, h.rdM hr.2.1 hb, h.rdM hr.2.2 hb⟩
theorem OW.chunk {ops : Array Oper} {rest : List Oper} (i : Nat) {p : HP} (p' : HP) {H' : List HP} (hi : sel H i = some (p, H')) (he : p = p') (k : OW P n w0 F ops K rest l (p' :: H')) : OW P n w0 F ops K rest l H := fun a w ha hw => k a w ha (he ▸ hw.sel hi)
end
end E
end Go.Proofs.Ytflkbabhbnmajaa

/- Reading a config out of bytes: the plain parser, and laws for parts of slices and for bits. No program in sight. -/
namespace Go.Proofs.Ytflkbabhbnmajaa
set_option linter.unusedSimpArgs false
set_option linter.unusedVariables false
namespace Cf
open Go
/-! ### The parser -/
abbrev Bs := List UInt8
def n1 : Bs → Option (Nat × Bs)
  | [] => none
  | y :: r => some (y.toNat, r)
def tk (n : Nat) (s : Bs) : Option (Bs × Bs) := if n ≤ s.length then some (s.take n, s.drop n) else none
def is (l : Bs) : List Int := l.map fun y => (y.toNat : Int)
def ls (s : Bs) : Option (List Int × Bs) := (n1 s).bind fun x => (tk x.1 x.2).map fun y => (is y.1, y.2)
def nsP : Nat → Bs → Option (List Int × Bs)
  | 0, s => some ([], s)
  | n + 1, s => (nsP n s).bind fun x => (n1 x.2).map fun y => (x.1 ++ [(y.1 : Int)], y.2)
def tmP (s : Bs) : Option (T × Bs) := (ls s).bind fun h =>
  if h.1.length = 0 then some (⟨h.1, [], [], 0, 0, 0, 0, 0⟩, h.2) else
  (ls h.2).bind fun p => (ls p.2).bind fun d => (nsP 5 d.2).map fun x => (⟨h.1, p.1, d.1, x.1.getD 0 0, x.1.getD 1 0, x.1.getD 2 0, x.1.getD 3 0, x.1.getD 4 0⟩, x.2)
def tmsP : Nat → Bs → Option (List T × Bs)
  | 0, s => some ([], s)
  | n + 1, s => (tmsP n s).bind fun x => (tmP x.2).map fun y => (x.1 ++ [y.1], y.2)
def beval (l : Bs) : Int := l.foldl (fun a c => a * 256 + (c.toNat : Int)) 0
def cfP (s : Bs) : Option (C × Bs) := (n1 s).bind fun a => (n1 a.2).bind fun b => (tk (a.1 * b.1) b.2).bind fun l => (n1 l.2).bind fun k => (tk k.1 k.2).bind fun q => (n1 q.2).bind fun n => (tmsP n.1 n.2).bind fun ts => (tk 8 ts.2).map fun st =>
  (⟨a.1, b.1, l.1, q.1, ts.1, beval st.1⟩, st.2)
def dec (b : Bs) : C × Int := if 256 < b.length then (zero, 4) else match cfP b with
  | none => (zero, 10)
  | some x => if 0 < x.2.length then (zero, 11) else if check x.1 = 0 then (x.1, 0) else (zero, check x.1)

/-- what a reading step has done: from the bytes left (none: there were too few) to the bytes left. -/
def Res {α : Type} (p : Bs → Option (α × Bs)) (s : Option Bs) (x : α) (s' : Option Bs) : Prop := match s.bind p with
  | none => s' = none
  | some y => s' = some y.2 ∧ x = y.1
theorem beval_b : ∀ (l : Bs), 0 ≤ beval l ∧ beval l < 256 ^ l.length := by
  intro l
  have key : ∀ (l : Bs) (a : Int), 0 ≤ a → 0 ≤ l.foldl (fun a c => a * 256 + (c.toNat : Int)) a ∧ l.foldl (fun a c => a * 256 + (c.toNat : Int)) a < (a + 1) * 256 ^ l.length := by
    intro l
    induction l with
    | nil => intro a ha; simp; omega
    | cons y r ih =>
      intro a ha
      have hy := y.toNat_lt
      have := ih (a * 256 + (y.toNat : Int)) (by omega)
      refine ⟨this.1, Int.lt_of_lt_of_le this.2 ?_⟩
      rw [List.length_cons, Int.pow_succ, Int.mul_comm (256 ^ r.length) 256, ← Int.mul_assoc]
      exact Int.mul_le_mul_of_nonneg_right (by omega) (Int.pow_nonneg (by omega))
  have := key l 0 (by omega)
  simpa [beval] using this
theorem beval_take {l : Bs} {k : Nat} (h : k < l.length) : beval (l.take (k + 1)) = beval (l.take k) * 256 + ((l.getD k 0).toNat : Int) := by
  unfold beval
  rw [List.take_add_one, List.getElem?_eq_getElem h, Option.toList_some, List.foldl_append]
  simp [List.getD, h]
theorem tk_len {n : Nat} {s l r : Bs} (h : tk n s = some (l, r)) : l.length = n := by
  unfold tk at h
  split at h
  · simp only [Option.some.injEq, Prod.mk.injEq] at h
    rw [← h.1, List.length_take]; omega
  · cases h
theorem n1_take {s : Bs} : n1 s = (tk 1 s).map fun y => (((y.1.getD 0 0).toNat), y.2) := by
  cases s with
  | nil => rfl
  | cons y r => simp [n1, tk]
/-! ### The reader's state: a position and an error -/
def str (b : Bs) (p : Nat) (e : Int) : Option Bs := if e = 0 then some (b.drop p) else none
def numP (m : Nat) (s : Bs) : Option (Int × Bs) := (tk m s).map fun y => (beval y.1, y.2)
theorem str_bad {b : Bs} {p : Nat} {e : Int} (h : ¬ e = 0) : str b p e = none := if_neg h
theorem res_bad {α : Type} {f : Bs → Option (α × Bs)} {b : Bs} {p q : Nat} {e e2 : Int} {x : α} (h : ¬ e = 0) (h2 : ¬ e2 = 0) : Res f (str b p e) x (str b q e2) := by
  unfold Res; rw [str_bad h, str_bad h2]; rfl
theorem tk_drop {b : Bs} {p m : Nat} (h : p + m ≤ b.length) : tk m (b.drop p) = some ((b.drop p).take m, b.drop (p + m)) := by
  unfold tk; rw [if_pos (by rw [List.length_drop]; omega), List.drop_drop]
theorem tk_short {b : Bs} {p m : Nat} (h : b.length < p + m) (hp : p ≤ b.length) : tk m (b.drop p) = none := by
  unfold tk; rw [if_neg (by rw [List.length_drop]; omega)]
theorem res_tk {b : Bs} {p m : Nat} (h : p + m ≤ b.length) : Res (tk m) (str b p 0) ((b.drop p).take m) (str b (p + m) 0) := by
  unfold Res str; simp only [if_true, Option.bind_some, tk_drop h]; exact ⟨by first | trivial | rfl, by first | trivial | rfl⟩
theorem res_tks {b : Bs} {p m q : Nat} {x : Bs} (h : b.length < p + m) (hp : p ≤ b.length) : Res (tk m) (str b p 0) x (str b q 10) := by
  unfold Res str; simp only [if_true, Option.bind_some, tk_short h hp]; rfl
theorem res_num {b : Bs} {p m : Nat} (h : p + m ≤ b.length) : Res (numP m) (str b p 0) (beval ((b.drop p).take m)) (str b (p + m) 0) := by
  unfold Res str numP; simp only [if_true, Option.bind_some, tk_drop h, Option.map_some]; exact ⟨by first | trivial | rfl, by first | trivial | rfl⟩
theorem res_nums {b : Bs} {p m q : Nat} {x : Int} (h : b.length < p + m) (hp : p ≤ b.length) : Res (numP m) (str b p 0) x (str b q 10) := by
  unfold Res str numP; simp only [if_true, Option.bind_some, tk_short h hp, Option.map_none]; rfl
theorem beval_one (y : UInt8) : beval [y] = (y.toNat : Int) := by simp [beval]
theorem n1_num (s : Bs) : n1 s = (numP 1 s).map fun y => (y.1.toNat, y.2) := by
  cases s with
  | nil => rfl
  | cons y r => simp [n1, numP, tk, beval_one]
theorem res_n1 {s s' : Option Bs} {x : Int} (h : Res (numP 1) s x s') : Res n1 s x.toNat s' := by
  unfold Res at *
  cases s with
  | none => exact h
  | some s =>
    simp only [Option.bind_some] at *
    rw [n1_num]
    cases hn : numP 1 s with
    | none => rw [hn] at h; exact h
    | some y => rw [hn] at h; simp only [Option.map_some]; exact ⟨h.1, by rw [h.2]⟩
theorem res_none {α : Type} {f : Bs → Option (α × Bs)} {s' : Option Bs} {x : α} (h : Res f none x s') : s' = none := h
theorem res_map {α β : Type} {f : Bs → Option (α × Bs)} {g : α → β} {s s' : Option Bs} {x : α} (h : Res f s x s') : Res (fun s => (f s).map fun y => (g y.1, y.2)) s (g x) s' := by
  unfold Res at *
  cases s with
  | none => exact h
  | some s =>
    simp only [Option.bind_some] at *
    cases hf : f s with
    | none => rw [hf] at h; simpa [hf] using h
    | some y => rw [hf] at h; simp only [hf, Option.map_some]; exact ⟨h.1, by rw [h.2]⟩
/-- one step after another. -/
theorem res_bind {α β : Type} {f : Bs → Option (α × Bs)} {g : α → Bs → Option (β × Bs)} {s s' s2 : Option Bs} {x : α} {y : β} (h : Res f s x s') (h2 : Res (g x) s' y s2) : Res (fun s => (f s).bind fun z => g z.1 z.2) s y s2 := by
  unfold Res at *
  cases s with
  | none => simp only [Option.bind_none] at *; subst h; exact h2
  | some s =>
    simp only [Option.bind_some] at *
    cases hf : f s with
    | none => rw [hf] at h; simp only [hf, Option.bind_none]; simp only at h; subst h; exact h2
    | some z => rw [hf] at h; simp only [hf, Option.bind_some]; obtain ⟨h1, rfl⟩ := h; subst h1; exact h2
theorem pow_le {a b : Nat} (h : a ≤ b) : (256 : Int) ^ a ≤ 256 ^ b := by
  have h1 : (256 : Nat) ^ a ≤ 256 ^ b := Nat.pow_le_pow_right (by omega) h
  have e : ∀ k : Nat, (256 : Int) ^ k = ((256 ^ k : Nat) : Int) := fun k => by rw [Int.natCast_pow]; rfl
  rw [e, e]; omega
theorem beval_small {l : Bs} (h : l.length ≤ 7) : 0 ≤ beval l ∧ beval l < 72057594037927936 := by
  have hb := beval_b l
  have : (256 : Int) ^ l.length ≤ 256 ^ 7 := pow_le h
  exact ⟨hb.1, Int.lt_of_lt_of_le hb.2 (by simpa using this)⟩
theorem beval_u64 {l : Bs} (h : l.length ≤ 8) : 0 ≤ beval l ∧ beval l < 18446744073709551616 := by
  have hb := beval_b l
  have : (256 : Int) ^ l.length ≤ 256 ^ 8 := pow_le h
  exact ⟨hb.1, Int.lt_of_lt_of_le hb.2 (by simpa using this)⟩
theorem beval_nil : beval [] = 0 := rfl
theorem beval_byte {l : Bs} (h : l.length ≤ 1) : beval l < 256 := by
  have hb := beval_b l
  have : (256 : Int) ^ l.length ≤ 256 ^ 1 := pow_le h
  exact Int.lt_of_lt_of_le hb.2 (by simpa using this)
theorem res_congr {α : Type} {f g : Bs → Option (α × Bs)} {s s' : Option Bs} {x : α} (e : ∀ s, f s = g s) (h : Res f s x s') : Res g s x s' := by
  rw [show g = f from funext fun s => (e s).symm]; exact h
theorem res_ls {s s1 s2 : Option Bs} {x : Nat} {l : Bs} (h : Res n1 s x s1) (h2 : Res (tk x) s1 l s2) : Res ls s (is l) s2 :=
  res_congr (fun _ => rfl) (res_bind (g := fun (k : Nat) (s : Bs) => (tk k s).map fun (y : Bs × Bs) => (is y.1, y.2)) h (res_map (g := is) h2))
/-- a team, step by step. -/
theorem res_tm0 {s s1 : Option Bs} {h : List Int} (r : Res ls s h s1) (e : h.length = 0) : Res tmP s ⟨h, [], [], 0, 0, 0, 0, 0⟩ s1 := by
  unfold Res at *
  cases s with
  | none => exact r
  | some s =>
    simp only [Option.bind_some] at *
    unfold tmP
    cases hf : ls s with
    | none => rw [hf] at r; exact r
    | some z => rw [hf] at r; simp only [Option.bind_some]; obtain ⟨h1, rfl⟩ := r; rw [if_pos e]; exact ⟨h1, rfl⟩
theorem res_ns0 (s : Option Bs) : Res (nsP 0) s [] s := by
  unfold Res; cases s with
  | none => rfl
  | some s => exact ⟨rfl, rfl⟩
theorem res_ns {s s1 s2 : Option Bs} {k : Nat} {xs : List Int} {x : Nat} (r : Res (nsP k) s xs s1) (r2 : Res n1 s1 x s2) : Res (nsP (k + 1)) s (xs ++ [(x : Int)]) s2 :=
  res_congr (fun _ => rfl) (res_bind (g := fun (xs : List Int) (s : Bs) => (n1 s).map fun (y : Nat × Bs) => (xs ++ [(y.1 : Int)], y.2)) r (res_map (g := fun (x : Nat) => xs ++ [(x : Int)]) r2))
theorem res_tm1 {s s1 s2 s3 s4 : Option Bs} {h p d ns : List Int} (r : Res ls s h s1) (e : ¬ h.length = 0) (r2 : Res ls s1 p s2) (r3 : Res ls s2 d s3) (r4 : Res (nsP 5) s3 ns s4) :
    Res tmP s ⟨h, p, d, ns.getD 0 0, ns.getD 1 0, ns.getD 2 0, ns.getD 3 0, ns.getD 4 0⟩ s4 := by
  have r5 := res_map (g := fun (ns : List Int) => (⟨h, p, d, ns.getD 0 0, ns.getD 1 0, ns.getD 2 0, ns.getD 3 0, ns.getD 4 0⟩ : T)) r4
  have r6 := res_bind (g := fun (d : List Int) (s : Bs) => (nsP 5 s).map fun (x : List Int × Bs) => ((⟨h, p, d, x.1.getD 0 0, x.1.getD 1 0, x.1.getD 2 0, x.1.getD 3 0, x.1.getD 4 0⟩ : T), x.2)) r3 r5
  have r7 := res_bind (g := fun (p : List Int) (s : Bs) => (ls s).bind fun (d : List Int × Bs) => (nsP 5 d.2).map fun (x : List Int × Bs) => ((⟨h, p, d.1, x.1.getD 0 0, x.1.getD 1 0, x.1.getD 2 0, x.1.getD 3 0, x.1.getD 4 0⟩ : T), x.2)) r2 r6
  have r8 := res_bind (g := fun (h : List Int) (s : Bs) => if h.length = 0 then some ((⟨h, [], [], 0, 0, 0, 0, 0⟩ : T), s) else (ls s).bind fun (p : List Int × Bs) => (ls p.2).bind fun (d : List Int × Bs) => (nsP 5 d.2).map fun (x : List Int × Bs) => ((⟨h, p.1, d.1, x.1.getD 0 0, x.1.getD 1 0, x.1.getD 2 0, x.1.getD 3 0, x.1.getD 4 0⟩ : T), x.2)) r
    (res_congr (fun s => by simp only [if_neg e]) r7)
  exact res_congr (fun _ => rfl) r8
theorem res_tms {s s1 s2 : Option Bs} {n : Nat} {ts : List T} {t : T} (r : Res (tmsP n) s ts s1) (r2 : Res tmP s1 t s2) : Res (tmsP (n + 1)) s (ts ++ [t]) s2 :=
  res_congr (fun _ => rfl) (res_bind (g := fun (ts : List T) s => (tmP s).map fun y => (ts ++ [y.1], y.2)) r (res_map (g := fun t => ts ++ [t]) r2))
theorem res_tms_bad {n : Nat} {ts us : List T} {s : Option Bs} (r : Res (tmsP n) s ts none) : Res (tmsP (n + 1)) s us none := by
  have h := res_congr (g := tmsP (n + 1)) (fun _ => rfl) (res_bind (g := fun (ts : List T) s => (tmP s).map fun y => (ts ++ [y.1], y.2)) r (res_map (x := T.z) (g := fun t => ts ++ [t]) (s' := none) rfl))
  unfold Res at *
  cases s with
  | none => rfl
  | some s =>
    simp only [Option.bind_some] at *
    cases hf : tmsP (n + 1) s with
    | none => trivial
    | some z => rw [hf] at h; obtain ⟨h1, _⟩ := h; cases h1
theorem is_take {l : Bs} {k : Nat} (h : k < l.length) : is (l.take (k + 1)) = is (l.take k) ++ [((l.getD k 0).toNat : Int)] := by
  unfold is
  rw [List.take_add_one, List.getElem?_eq_getElem h, Option.toList_some, List.map_append]
  simp [List.getD, h]
theorem is_b {l : Bs} : ∀ n ∈ is l, 0 ≤ n ∧ n < 256 := fun n hn => by
  simp only [is, List.mem_map] at hn
  obtain ⟨y, _, rfl⟩ := hn
  have := y.toNat_lt
  omega
theorem res_tms0 (s : Option Bs) : Res (tmsP 0) s [] s := by
  unfold Res; cases s with
  | none => rfl
  | some s => exact ⟨rfl, rfl⟩
/-! ### What is read is small -/
def tiny (l : List Int) : Prop := l.length ≤ 255 ∧ ∀ n ∈ l, 0 ≤ n ∧ n < 256
theorem tiny_nil : tiny [] := ⟨by simp, fun n h => by cases h⟩
theorem tiny_i64s {l : List Int} (h : tiny l) : i64s l := fun n hn => by have := h.2 n hn; omega
theorem tiny_snoc {l : List Int} {x : Nat} (h : ∀ n ∈ l, 0 ≤ n ∧ n < 256) (hx : x < 256) : ∀ n ∈ l ++ [(x : Int)], 0 ≤ n ∧ n < 256 := fun n hn => by
  simp only [List.mem_append, List.mem_singleton] at hn
  rcases hn with h' | rfl
  · exact h n h'
  · omega
theorem fit_tiny {h p d : List Int} {a b c e f : Int} (h1 : tiny h) (h2 : tiny p) (h3 : tiny d) (h4 : ∀ n ∈ [a, b, c, e, f], 0 ≤ n ∧ n < 256) : T.fit ⟨h, p, d, a, b, c, e, f⟩ := by
  have k1 := h1.1
  have k2 := h2.1
  have k3 := h3.1
  have ha := h4 a (by simp)
  have hb := h4 b (by simp)
  have hc := h4 c (by simp)
  have he := h4 e (by simp)
  have hf := h4 f (by simp)
  exact ⟨by simp only; omega, by simp only; omega, by simp only; omega, tiny_i64s h1, tiny_i64s h2, tiny_i64s h3, by simp only [i64]; omega, by simp only [i64]; omega, by simp only [i64]; omega, by simp only [i64]; omega, by simp only [i64]; omega⟩
theorem fit_tiny0 {h : List Int} (h1 : tiny h) : T.fit ⟨h, [], [], 0, 0, 0, 0, 0⟩ := fit_tiny h1 tiny_nil tiny_nil (fun n hn => by simp at hn; omega)
theorem five {l : List Int} (h : l.length = 5) : ∃ a b c d e, l = [a, b, c, d, e] := by
  match l, h with
  | [a, b, c, d, e], _ => exact ⟨a, b, c, d, e, rfl⟩
theorem res_cf {s s1 s2 s3 s4 s5 s6 s7 s8 : Option Bs} {a b k n : Nat} {l q : Bs} {ts : List T} {st : Int} (r1 : Res n1 s a s1) (r2 : Res n1 s1 b s2) (r3 : Res (tk (a * b)) s2 l s3) (r4 : Res n1 s3 k s4)
    (r5 : Res (tk k) s4 q s5) (r6 : Res n1 s5 n s6) (r7 : Res (tmsP n) s6 ts s7) (r8 : Res (numP 8) s7 st s8) : Res cfP s ⟨a, b, l, q, ts, st⟩ s8 := by
  have g8 := res_map (g := fun (st : Int) => (⟨a, b, l, q, ts, st⟩ : C)) r8
  have g7 := res_bind (g := fun (ts : List T) (s : Bs) => (numP 8 s).map fun (y : Int × Bs) => ((⟨a, b, l, q, ts, y.1⟩ : C), y.2)) r7 g8
  have g6 := res_bind (g := fun (n : Nat) (s : Bs) => (tmsP n s).bind fun (z : List T × Bs) => (numP 8 z.2).map fun (y : Int × Bs) => ((⟨a, b, l, q, z.1, y.1⟩ : C), y.2)) r6 g7
  have g5 := res_bind (g := fun (q : Bs) (s : Bs) => (n1 s).bind fun (n : Nat × Bs) => (tmsP n.1 n.2).bind fun (z : List T × Bs) => (numP 8 z.2).map fun (y : Int × Bs) => ((⟨a, b, l, q, z.1, y.1⟩ : C), y.2)) r5 g6
  have g4 := res_bind (g := fun (k : Nat) (s : Bs) => (tk k s).bind fun (q : Bs × Bs) => (n1 q.2).bind fun (n : Nat × Bs) => (tmsP n.1 n.2).bind fun (z : List T × Bs) => (numP 8 z.2).map fun (y : Int × Bs) => ((⟨a, b, l, q.1, z.1, y.1⟩ : C), y.2)) r4 g5
  have g3 := res_bind (g := fun (l : Bs) (s : Bs) => (n1 s).bind fun (k : Nat × Bs) => (tk k.1 k.2).bind fun (q : Bs × Bs) => (n1 q.2).bind fun (n : Nat × Bs) => (tmsP n.1 n.2).bind fun (z : List T × Bs) => (numP 8 z.2).map fun (y : Int × Bs) => ((⟨a, b, l, q.1, z.1, y.1⟩ : C), y.2)) r3 g4
  have g2 := res_bind (g := fun (b : Nat) (s : Bs) => (tk (a * b) s).bind fun (l : Bs × Bs) => (n1 l.2).bind fun (k : Nat × Bs) => (tk k.1 k.2).bind fun (q : Bs × Bs) => (n1 q.2).bind fun (n : Nat × Bs) => (tmsP n.1 n.2).bind fun (z : List T × Bs) => (numP 8 z.2).map fun (y : Int × Bs) => ((⟨a, b, l.1, q.1, z.1, y.1⟩ : C), y.2)) r2 g3
  have g1 := res_bind (g := fun (a : Nat) (s : Bs) => (n1 s).bind fun (b : Nat × Bs) => (tk (a * b.1) b.2).bind fun (l : Bs × Bs) => (n1 l.2).bind fun (k : Nat × Bs) => (tk k.1 k.2).bind fun (q : Bs × Bs) => (n1 q.2).bind fun (n : Nat × Bs) => (tmsP n.1 n.2).bind fun (z : List T × Bs) => (numP 8 z.2).map fun (y : Int × Bs) => ((⟨a, b.1, l.1, q.1, z.1, y.1⟩ : C), y.2)) r1 g2
  refine res_congr (fun s => ?_) g1
  unfold cfP numP
  simp only [Option.map_map]
  rfl
theorem str0 (b : Bs) : str b 0 0 = some b := rfl
theorem dec_big {b : Bs} (h : 256 < b.length) : dec b = (zero, 4) := if_pos h
theorem dec_none {b : Bs} {x : C} {p : Nat} {e : Int} (h : b.length ≤ 256) (he : ¬ e = 0) (r : Res cfP (str b 0 0) x (str b p e)) : dec b = (zero, 10) := by
  rw [str0, str_bad he] at r
  unfold dec; rw [if_neg (by omega)]
  unfold Res at r
  simp only [Option.bind_some] at r
  cases hc : cfP b with
  | none => rfl
  | some y => rw [hc] at r; cases r.1
theorem dec_some {b : Bs} {x : C} {p : Nat} (r : Res cfP (str b 0 0) x (str b p 0)) : cfP b = some (x, b.drop p) := by
  rw [str0] at r
  unfold Res str at r
  simp only [Option.bind_some, if_true] at r
  cases hc : cfP b with
  | none => rw [hc] at r; cases r
  | some y => rw [hc] at r; obtain ⟨h1, h2⟩ := r; simp only [Option.some.injEq] at h1; rw [h1, h2]
theorem dec_more {b : Bs} {x : C} {p : Nat} (h : b.length ≤ 256) (r : Res cfP (str b 0 0) x (str b p 0)) (hp : p < b.length) : dec b = (zero, 11) := by
  unfold dec; rw [if_neg (by omega), dec_some r]
  simp only
  rw [if_pos (by rw [List.length_drop]; omega)]
theorem dec_bad {b : Bs} {x : C} {p : Nat} (h : b.length ≤ 256) (r : Res cfP (str b 0 0) x (str b p 0)) (hp : ¬ p < b.length) (hc : ¬ check x = 0) : dec b = (zero, check x) := by
  unfold dec; rw [if_neg (by omega), dec_some r]
  simp only
  rw [if_neg (by rw [List.length_drop]; omega), if_neg hc]
theorem dec_ok {b : Bs} {x : C} {p : Nat} (h : b.length ≤ 256) (r : Res cfP (str b 0 0) x (str b p 0)) (hp : ¬ p < b.length) (hc : check x = 0) : dec b = (x, 0) := by
  unfold dec; rw [if_neg (by omega), dec_some r]
  simp only
  rw [if_neg (by rw [List.length_drop]; omega), if_pos hc]
theorem fit_read {a b : Nat} {l q : Bs} {ts : List T} {st : Int} (ha : a < 256) (hb : b < 256) (hl : l.length ≤ 100000) (hq : q.length ≤ 100000) (ht : ts.length ≤ 100000) (hm : ∀ t ∈ ts, t.fit) (hs : 0 ≤ st ∧ st < 18446744073709551616) : C.fit ⟨a, b, l, q, ts, st⟩ :=
  ⟨by simp only [i64]; omega, by simp only [i64]; omega, by simp only; omega, by simp only; omega, by simp only; omega, hm, hs⟩
theorem fits_map {ts : List E.Tm} (h : ∀ m ∈ ts, m.q.fit) : ∀ t ∈ ts.map (·.q), t.fit := fun t ht => by
  obtain ⟨m, hm, rfl⟩ := List.mem_map.1 ht
  exact h m hm
theorem fits_snoc {ts : List E.Tm} {m : E.Tm} (h : ∀ m ∈ ts, m.q.fit) (hm : m.q.fit) : ∀ q ∈ ts ++ [m], q.q.fit := fun q hq => by
  simp only [List.mem_append, List.mem_singleton] at hq
  rcases hq with h' | rfl
  · exact h q h'
  · exact hm
/-! ### The specification's reader: what is left, and whether it was too short -/
def st2 (sh : Bool) (s : Bs) : Option Bs := if sh = true then none else some s
theorem st2_t (s : Bs) : st2 true s = none := rfl
theorem st2_f (s : Bs) : st2 false s = some s := rfl
theorem res_r0 {sh : Bool} {s : Bs} (h : s.length = 0) : Res n1 (st2 sh s) 0 (st2 true []) := by
  obtain rfl := List.length_eq_zero_iff.1 h
  cases sh <;> rfl
theorem res_r1 {sh : Bool} {s : Bs} (h : 0 < s.length) : Res n1 (st2 sh s) (s.getD 0 0).toNat (st2 sh (s.drop 1)) := by
  cases s with
  | nil => simp at h
  | cons y r => cases sh with
    | true => rfl
    | false => exact ⟨rfl, rfl⟩
theorem tk_succ (k : Nat) (s : Bs) : tk (k + 1) s = (tk k s).bind fun y => (n1 y.2).map fun z => (y.1 ++ [UInt8.ofNat z.1], z.2) := by
  unfold tk
  by_cases h : k ≤ s.length
  · rw [if_pos h]
    simp only [Option.bind_some]
    by_cases h2 : k + 1 ≤ s.length
    · rw [if_pos h2, List.drop_eq_getElem_cons (show k < s.length by omega)]
      simp only [n1, Option.map_some, UInt8.ofNat_toNat]
      rw [List.take_add_one, List.getElem?_eq_getElem (show k < s.length by omega)]
      rfl
    · rw [if_neg h2, List.drop_eq_nil_of_le (by omega)]
      rfl
  · rw [if_neg h, if_neg (by omega)]; rfl
theorem res_tk0 (s : Option Bs) : Res (tk 0) s [] s := by
  unfold Res; cases s with
  | none => rfl
  | some s => exact ⟨rfl, rfl⟩
theorem res_tk1 {k : Nat} {s s1 s2 : Option Bs} {l : Bs} {x : Nat} (r : Res (tk k) s l s1) (r2 : Res n1 s1 x s2) : Res (tk (k + 1)) s (l ++ [UInt8.ofNat x]) s2 :=
  res_congr (fun s => (tk_succ k s).symm) (res_bind (g := fun (l : Bs) (s : Bs) => (n1 s).map fun (y : Nat × Bs) => (l ++ [UInt8.ofNat y.1], y.2)) r (res_map (g := fun (x : Nat) => l ++ [UInt8.ofNat x]) r2))
theorem res_tk_bad {k n : Nat} {s : Option Bs} {l : Bs} (r : Res (tk k) s l none) (h : k ≤ n) (l2 : Bs) : Res (tk n) s l2 none := by
  unfold Res at *
  cases s with
  | none => rfl
  | some s =>
    simp only [Option.bind_some] at *
    have hk : tk k s = none := by
      cases hc : tk k s with
      | none => rfl
      | some y => rw [hc] at r; cases r.1
    have : tk n s = none := by
      unfold tk at *
      split at hk
      · cases hk
      · rw [if_neg (by omega)]
    rw [this]
    trivial
theorem res_end {k n : Nat} {sh : Bool} {s : Option Bs} {l s2 : Bs} (r : Res (tk k) s l (st2 sh s2)) (h : k ≤ n) (e : ¬ (k : Int) < n ∨ sh = true) : Res (tk n) s l (st2 sh s2) := by
  rcases e with e | rfl
  · obtain rfl : k = n := by omega
    exact r
  · exact res_tk_bad r h l
theorem res_tms_badn {k n : Nat} {s : Option Bs} {l : List T} (r : Res (tmsP k) s l none) (h : k ≤ n) : Res (tmsP n) s l none := by
  induction n with
  | zero => obtain rfl : k = 0 := by omega
            exact r
  | succ n ih =>
    rcases Nat.lt_or_ge n k with h' | h'
    · obtain rfl : k = n + 1 := by omega
      exact r
    · exact res_tms_bad (ih h')
theorem res_tms_end {k n : Nat} {sh : Bool} {s : Option Bs} {l : List T} {s2 : Bs} (r : Res (tmsP k) s l (st2 sh s2)) (h : k ≤ n) (e : ¬ (k : Int) < n ∨ sh = true) : Res (tmsP n) s l (st2 sh s2) := by
  rcases e with e | rfl
  · obtain rfl : k = n := by omega
    exact r
  · exact res_tms_badn r h
theorem ofNat_u8 {x : Nat} (h : x < 256) : (x : Int) = ((UInt8.ofNat x).toNat : Int) := by
  rw [UInt8.toNat_ofNat']; omega
theorem wrap_ofNat (x : Nat) : IntKind.u8.wrap (x : Int) = ((UInt8.ofNat x).toNat : Int) := by
  rw [IntKind.wrap_u8, UInt8.toNat_ofNat']
  omega
theorem tk_res {sh : Bool} {s l s2 : Bs} {n : Nat} (r : Res (tk n) (some s) l (st2 false s2)) : l.length = n := by
  unfold Res at r
  simp only [Option.bind_some] at r
  cases hc : tk n s with
  | none => rw [hc] at r; cases r
  | some y => rw [hc] at r; obtain ⟨_, h2⟩ := r; rw [h2]; exact tk_len hc
theorem tk_len8 {x : Option Bs} {l s2 : Bs} (r : Res (tk 8) x l (st2 false s2)) : l.length = 8 := by
  cases x with
  | none => cases r
  | some s => exact tk_res (sh := false) r
theorem tiny5 {a b c d e : Nat} (h1 : a < 256) (h2 : b < 256) (h3 : c < 256) (h4 : d < 256) (h5 : e < 256) : ∀ n ∈ [(a : Int), (b : Int), (c : Int), (d : Int), (e : Int)], 0 ≤ n ∧ n < 256 := fun n hn => by
  simp only [List.mem_cons, List.not_mem_nil, or_false] at hn
  omega
theorem res_num8 {s s' : Option Bs} {l : Bs} (r : Res (tk 8) s l s') : Res (numP 8) s (beval l) s' := res_congr (fun _ => rfl) (res_map (g := beval) r)
theorem dec_none' {b : Bs} {x : C} {s2 : Bs} (h : b.length ≤ 256) (r : Res cfP (some b) x (st2 true s2)) : dec b = (zero, 10) := by
  unfold dec; rw [if_neg (by omega)]
  unfold Res at r
  simp only [Option.bind_some] at r
  cases hc : cfP b with
  | none => rfl
  | some y => rw [hc] at r; cases r.1
theorem dec_some' {b : Bs} {x : C} {s2 : Bs} (r : Res cfP (some b) x (st2 false s2)) : cfP b = some (x, s2) := by
  unfold Res st2 at r
  simp only [Option.bind_some] at r
  cases hc : cfP b with
  | none => rw [hc] at r; cases r
  | some y => rw [hc] at r; obtain ⟨h1, h2⟩ := r; simp at h1; rw [h1, h2]
theorem dec_more' {b : Bs} {x : C} {s2 : Bs} (h : b.length ≤ 256) (r : Res cfP (some b) x (st2 false s2)) (hp : 0 < s2.length) : dec b = (zero, 11) := by
  unfold dec; rw [if_neg (by omega), dec_some' r]
  simp only
  rw [if_pos hp]
theorem dec_bad' {b : Bs} {x : C} {s2 : Bs} (h : b.length ≤ 256) (r : Res cfP (some b) x (st2 false s2)) (hp : ¬ 0 < s2.length) (hc : ¬ check x = 0) : dec b = (zero, check x) := by
  unfold dec; rw [if_neg (by omega), dec_some' r]
  simp only
  rw [if_neg hp, if_neg hc]
theorem dec_ok' {b : Bs} {x : C} {s2 : Bs} (h : b.length ≤ 256) (r : Res cfP (some b) x (st2 false s2)) (hp : ¬ 0 < s2.length) (hc : check x = 0) : dec b = (x, 0) := by
  unfold dec; rw [if_neg (by omega), dec_some' r]
  simp only
  rw [if_neg hp, if_pos hc]
end Cf
namespace E
open Go Go.RowKit
section
variable {P : Program} {n : Fr} {w0 : World} {F : Nat → Prop} {K : Kt} {l : Env} {H : List HP} {o : Oper}
def subA (A : Option Addr) (c k : Nat) : Option Addr := if c = k then A else A.map (·.add (k * 1))
theorem PV.subs {t Et bytes m c lo hi : Nat} {x y q : Operand} {z : Value} {A : Option Addr} (hT : P.underlying t = some (.slice Et)) (hI : In P Et z 1 bytes) (ho : o.op = .slice t x (some y) (some q) none) (hx : ev l x = some (.slice A m c)) (hy : ev l y = some (.int .i64 (lo : Int)))
    (hq : ev l q = some (.int .i64 (hi : Int))) (h1 : lo ≤ hi) (h2 : hi ≤ c) : PV P n w0 F l H o (.slice (subA A c lo) (hi - lo) (c - lo)) := fun a w ha _ => by
  obtain ⟨inf, hinf, hz0, hz1, hz2⟩ := hI.parts
  have hel : P.elem t = Et := by simp [Program.elem, hT]
  have hT' : P.underlying t = some (.slice (P.elem t)) := by rw [hel]; exact hT
  have hr := run_slice_lh (P := P) w t A m c hT' .i64 .i64 (lo : Int) (hi : Int) (by omega) (by omega) (by omega)
  rw [hel] at hr
  have hsa := run_sliceAt_slice (P := P) w t (.slice A m c) (some (.int .i64 (lo : Int))) (some (.int .i64 (hi : Int))) none hT'
  simp [execOp, ho, ha.ev hx, ha.ev hy, ha.ev hq, hsa, hr, sizeOf, typeInfo, hinf, hz1, Result.andThen, sliced, subA]
theorem PV.sub1 {t Et bytes m c lo : Nat} {x y : Operand} {z : Value} {A : Option Addr} (hT : P.underlying t = some (.slice Et)) (hI : In P Et z 1 bytes) (ho : o.op = .slice t x (some y) none none) (hx : ev l x = some (.slice A m c)) (hy : ev l y = some (.int .i64 (lo : Int)))
    (h1 : lo ≤ m) : PV P n w0 F l H o (.slice (subA A c lo) (m - lo) (c - lo)) := fun a w ha _ => by
  obtain ⟨inf, hinf, hz0, hz1, hz2⟩ := hI.parts
  have hel : P.elem t = Et := by simp [Program.elem, hT]
  have hT' : P.underlying t = some (.slice (P.elem t)) := by rw [hel]; exact hT
  have hr := run_slice_l (P := P) w t A m c hT' .i64 (lo : Int) (by omega) (by omega)
  rw [hel] at hr
  have hsa := run_sliceAt_slice (P := P) w t (.slice A m c) (some (.int .i64 (lo : Int))) none none hT'
  simp [execOp, ho, ha.ev hx, ha.ev hy, hsa, hr, sizeOf, typeInfo, hinf, hz1, Result.andThen, sliced, subA]
theorem rd_sub {w : World} {G : Nat → Prop} {A : Option Addr} {c k m : Nat} {b : List UInt8} (hr : Rd w G A (u8s b)) (h : k + m ≤ b.length) (hc : b.length ≤ c) : Rd w G (subA A c k) (u8s ((b.drop k).take m)) := fun hx => by
  have hm : 0 < m := by
    rcases Nat.eq_zero_or_pos m with e | e
    · subst e; simp at hx
    · exact e
  obtain ⟨ad, rfl, hg, hcl⟩ := hr (by simp; omega)
  refine ⟨ad.add (k * 1), by simp [subA]; intro e; omega, by rw [Addr.add_block]; exact hg, fun j u hu => ?_⟩
  rw [Addr.add_add']
  refine hcl _ u ?_
  simp only [u8s, List.getElem?_map, List.getElem?_take, List.getElem?_drop, Nat.mul_one] at hu ⊢
  split at hu
  · exact hu
  · simp at hu
/-- where one slice can be read, so can the other. -/
def Sb (A : Option Addr) (s : List UInt8) (A2 : Option Addr) (s2 : List UInt8) : Prop := ∀ w G, Rd w G A (u8s s) → Rd w G A2 (u8s s2)
theorem Sb.refl (A : Option Addr) (s : List UInt8) : Sb A s A s := fun _ _ h => h
theorem Sb.trans {A A2 A3 : Option Addr} {s s2 s3 : List UInt8} (h : Sb A s A2 s2) (h2 : Sb A2 s2 A3 s3) : Sb A s A3 s3 := fun w G hr => h2 w G (h w G hr)
theorem Sb.nil (A A2 : Option Addr) (s : List UInt8) : Sb A s A2 [] := fun _ _ _ hx => by simp at hx
theorem Sb.drop {A : Option Addr} {c k : Nat} {s : List UInt8} (h : k ≤ s.length) (hc : s.length ≤ c) : Sb A s (subA A c k) (s.drop k) := fun w G hr => by
  have := rd_sub (k := k) (m := s.length - k) hr (by omega) hc
  rwa [List.take_of_length_le (by rw [List.length_drop]; omega)] at this
theorem HA.rowcap {w : World} (h : HA w0 F H w) {i Et sz m c : Nat} {A : Option Addr} {xs : List Value} {H' : List HP} (hi : E.sel H i = some (HP.row Et sz A m c xs, H')) : m ≤ c := by
  rcases (h.row hi).2 with ⟨hv, hm⟩ | ⟨g, cap, cur, hv, _, _, hnc, _⟩
  · subst hm; omega
  · injection hv with _ _ hc; omega
theorem PV.shl {t t' : TypeId} {x y : Operand} {k yk : IntKind} {p q : Int} (ho : o.op = .binOp .shl t x y t') (hx : ev l x = some (.int k p)) (hy : ev l y = some (.int yk q)) (hq : 0 ≤ q) : PV P n w0 F l H o (.int k (k.wrap (p * 2 ^ min q.toNat k.bits))) :=
  PV.bin ho hx hy eg_int fun w => by
    rw [show binOp .shl t (.int k p) (.int yk q) = Op.shift .shl k p yk q from by simp [binOp]]
    simp [Op.shift, show ¬ q < 0 by omega]
/-- eight bits more: the byte that is or-ed in is added. -/
theorem PV.or8 {t t' : TypeId} {x y : Operand} {p : Int} {q : Nat} (hp : 0 ≤ p ∧ p * 256 + 256 ≤ 18446744073709551616) (hq : q < 256) (ho : o.op = .binOp .or t x y t') (hx : ev l x = some (.int .u64 (p * 256))) (hy : ev l y = some (.int .u64 (q : Int))) : PV P n w0 F l H o (.int .u64 (p * 256 + (q : Int))) :=
  PV.bin ho hx hy eg_int fun w => by
    obtain ⟨m, rfl⟩ := Int.eq_ofNat_of_zero_le hp.1
    have e1 : ((m : Int) * 256) = ((m * 256 : Nat) : Int) := by omega
    have hm : m * 256 < 18446744073709551616 := by omega
    have hor : m * 256 ||| q = m * 256 + q := by
      have := Nat.shiftLeft_add_eq_or_of_lt (b := q) (i := 8) (by omega) m
      rw [Nat.shiftLeft_eq] at this
      exact this.symm
    rw [show binOp .or t (.int .u64 ((m : Int) * 256)) (.int .u64 (q : Int)) = Op.intBits .or .u64 ((m : Int) * 256) (q : Int) from by simp [binOp], e1]
    simp only [Op.intBits]
    have hb : (BitVec.ofInt IntKind.u64.bits ((m * 256 : Nat) : Int) ||| BitVec.ofInt IntKind.u64.bits (q : Int)).toNat = m * 256 + q := by
      rw [BitVec.toNat_or, BitVec.ofInt_natCast, BitVec.ofInt_natCast, BitVec.toNat_ofNat, BitVec.toNat_ofNat, show IntKind.u64.bits = 64 from rfl, Nat.mod_eq_of_lt (by omega), Nat.mod_eq_of_lt (by omega), hor]
    rw [hb]
    have : IntKind.u64.wrap ((m * 256 + q : Nat) : Int) = ((m * 256 + q : Nat) : Int) := by rw [IntKind.wrap_u64]; omega
    rw [this]
    simp
/-- a number stored behind some cells. -/
theorem wr_tail {a : List Value} {ns : List Int} {k : Nat} {x : Int} (hk : k < ns.length) : wr (a ++ ints ns) (a.length + k) [.int .i64 x] = some (a ++ ints (ns.set k x)) := by
  rw [wr_set _ _ _ (by rw [List.length_append, ints_length]; omega), List.set_append_right _ _ (by omega), Nat.add_sub_cancel_left]
  simp [ints, List.map_set]
theorem OW.store_tail {ops : Array Oper} {rest : List Oper} {t : TypeId} {x y : Operand} {B T i k j : Nat} {a : List Value} {ns : List Int} {v : Int} {H' : List HP} (hsz : ∀ w, (sizeOf t).run P w = .ok 1 w) (ho : o.op = .store t x y)
    (hg : gd ops l o.guard = some true) (hd : o.dst = none) (hx : ev l x = some (.pointer (some ⟨B, j, .none⟩))) (hy : ev l y = some (.int .i64 v)) (hj : j = a.length + k) (hk : k < ns.length)
    (hi : sel H i = some (HP.blk B T (a ++ ints ns), H')) (k' : OW P n w0 F ops K rest l (HP.blk B T (a ++ ints (ns.set k v)) :: H')) : OW P n w0 F ops K (o :: rest) l H := by
  subst hj
  exact OW.store (vs := [.int .i64 v]) hsz ho hg hd hx hy rfl rfl hi (wr_tail hk) k'
def ptrs (B k m : Nat) : List Value := (List.range m).map fun i => .pointer (some ⟨B, k + i, .none⟩)
@[simp] theorem ptrs_length (B k m : Nat) : (ptrs B k m).length = m := by simp [ptrs]
theorem PV.load_ptr {t : TypeId} {x : Operand} {A : Option Addr} {B k m i : Nat} (hR : ∀ w, HA w0 F H w → Rd w (Old w) A (ptrs B k m)) (ht : Na P t) (ho : o.op = .load t x) (hx : ev l x = some (eptr A i)) (hi : i < m) :
    PV P n w0 F l H o (.pointer (some ⟨B, k + i, .none⟩)) := PV.load_of hR ht ho hx (by simp [ptrs, hi])
theorem set_tail {xs : List Int} {k : Nat} {x : Int} (hl : xs.length = k) (hk : k < 5) : (xs ++ List.replicate (5 - k) 0).set k x = (xs ++ [x]) ++ List.replicate (5 - (k + 1)) 0 := by
  subst hl
  rw [List.set_append_right _ _ (Nat.le_refl _), Nat.sub_self, show 5 - xs.length = (5 - (xs.length + 1)) + 1 by omega, List.replicate_succ, List.set_cons_zero, List.append_assoc]
  rfl
theorem run_callf {P : Program} {o : Oper} {a : Act} {w : World} {f : Nat} {fo : Operand} {xs : List Operand} {ts : Array TypeId} {us vs : List Value} (hf : Nm P f)
    (hfo : a.eval fo = .func (.func f) us.toArray #[]) (ho : o.op = .call { callee := .value fo, args := xs.toArray, argTypes := ts }) (hx : xs.map a.eval = vs) :
    (execOp a.eval o).run P w = .ok (.enter f (us ++ vs).toArray) w := by
  obtain ⟨fn, h1, h2, h3⟩ := hf
  have hb : fn.body ≠ none := by intro h; rw [h] at h2; cases h2
  have hn : fn.name ≠ "runtime.NumGoroutine" := by simpa using h3
  simp [execOp, ho, resolve, Deferred.ofValue, invoke, callFunc, program, Sem.run, h1, hn, hb, hfo, hx]
/-- a call of a function value that holds its first arguments, and that may turn the chunk i. -/
theorem OW.callMF {ops : Array Oper} {rest : List Oper} {d : Nat} {f : Nat} {fo : Operand} {xs : List Operand} {ts : Array TypeId} {us vs : List Value} (hf : Nm P f)
    (hg : gd ops l o.guard = some true) (hd : o.dst = some d) (hn : Nat.blt d n.sz = true) (ho : o.op = .call { callee := .value fo, args := xs.toArray, argTypes := ts })
    (hfo : ev l fo = some (.func (.func f) us.toArray #[])) (hx : evs l xs = some vs) (R : Value → List HP → Prop) (i : Nat) {p : HP} {H' : List HP} (hi : E.sel H i = some (p, H'))
    (h : ∀ w S, HA w0 F (p :: H') w → p.sem S w → (∀ k, S k → k < w.heap.size ∧ ¬ F k) → Chunks w (fun k => F k ∨ S k) H' → Calls P f (us ++ vs).toArray w (Post w (fun k => k < w.heap.size ∧ ¬ S k) R))
    (k : ∀ v Hn, R v Hn → OW P n w0 F ops K rest ((d, v) :: l) (Hn ++ H')) : OW P n w0 F ops K (o :: rest) l H := fun a w ha hw => by
  refine wpListIn_step fun K' hK' => ?_
  rw [if_pos (ha.wanted hg)]
  refine wi_enter (run_callf hf (ha.ev hfo) ho (ha.evs hx)) ?_
  have hw1 := hw.perm (sel_perm hi)
  obtain ⟨S, h1, h2, h3⟩ := hw1.chunks
  refine (h w S hw1 h1 h2 h3).mono fun e w' ⟨v, Hn, he, hR, hw'⟩ => ?_
  refine ⟨v, he, ?_⟩
  rw [hd]
  refine hK' _ _ (k v Hn hR _ _ (ha.put hn v) ?_)
  have hF : ∀ k, F k → k < w.heap.size ∧ ¬ S k := fun k hf => ⟨Nat.lt_of_lt_of_le (hw.flt k hf) hw.size, fun hs => (h2 k hs).2 hf⟩
  refine ⟨hw'.os.trans hw.os, hw'.tape.trans hw.tape, hw'.output.trans hw.output, Nat.le_trans hw.size hw'.size, hw.flt, fun k hf => (hw'.kept k (hF k hf)).trans (hw.kept k hf), ?_⟩
  refine Chunks.app (G := fun k => k < w.heap.size ∧ ¬ S k) ?_ ?_
  · exact hw'.chunks.congr fun k => ⟨.inr, fun hk' => hk'.elim (hF k) id⟩
  · exact ChunksB.of (w := w) hw'.size (fun k hk' => hw'.kept k hk') (U := fun k => F k ∨ S k) (fun k hlt hn => ⟨hlt, fun hs => hn (.inr hs)⟩) (fun k hf => .inl hf) h3
theorem OW.tmsnoc {ops : Array Oper} {rest : List Oper} {H1 : List HP} {m : Tm} {ts : List Tm} (i j : Nat) {H2 : List HP} (hi : sel H i = some (HP.tm m, H1)) (hj : sel H1 j = some (HP.tms ts, H2)) (k : OW P n w0 F ops K rest l (HP.tms (ts ++ [m]) :: H2)) : OW P n w0 F ops K rest l H := fun a w ha hw => by
  have h1 := hw.perm ((sel_perm hi).trans ((sel_perm hj).cons _))
  refine k a w ha { h1 with chunks := ?_ }
  have h2 := Chunks.bag_in h1.chunks
  refine Chunks.bag_perm ?_ h2
  simp only [List.map_append, List.map_cons, List.map_nil]
  exact (List.perm_append_comm (l₁ := [HP.tm m]) (l₂ := ts.map HP.tm))
end
end E
end Go.Proofs.Ytflkbabhbnmajaa

/- The chapter's example, plainly. -/
namespace Go.Proofs.Ytflkbabhbnmajaa
set_option linter.unusedSimpArgs false
set_option linter.unusedVariables false
namespace Cf
open Go
def exs : List UInt8 := [1, 1, 0, 2, 2, 0]
def exl : List UInt8 := [1, 1, 255, 1, 1, 1, 1, 255, 1, 1, 2, 2, 255, 2, 2, 2, 2, 255, 2, 2]
def exo (k : Nat) : UInt8 := if k < 2 then 1 else 2
def ext (k : Int) : T := ⟨[10 * k], [5 + 10 * k], [4 + 10 * k], 1, 1, 2, 2, 8⟩
def ex : C := ⟨5, 4, exl, exs, [ext 0, ext 1], 0⟩
def six : List UInt8 := [1, 255, 1, 1, 1, 2]
def one (t : Int) : T := ⟨[0], [2], [t], 1, 8, 2, 16, 64⟩
def tail : List UInt8 := [6, 1, 1, 0, 2, 2, 0, 2, 1, 0, 1, 5, 1, 4, 1, 1, 2, 2, 8, 1, 10, 1, 15, 1, 14, 1, 1, 2, 2, 8]
end Cf
namespace E
open Go Go.RowKit
section
variable {P : Program} {n : Fr} {w0 : World} {F : Nat → Prop} {K : Kt} {l : Env} {H : List HP} {o : Oper}
theorem CW.cap {c' : Code} (i : Nat) {Et sz m c : Nat} {A : Option Addr} {xs : List Value} {H' : List HP} (hi : E.sel H i = some (HP.row Et sz A m c xs, H')) (k : m ≤ c → CW P n w0 F c' K l H) : CW P n w0 F c' K l H := fun a w ha hw => k (hw.rowcap hi) a w ha hw
theorem OW.conv {ops : Array Oper} {rest : List Oper} {H' : List HP} (h : ∀ w U, Chunks w U H → Chunks w U H') (k : OW P n w0 F ops K rest l H') : OW P n w0 F ops K rest l H := fun a w ha hw => k a w ha { hw with chunks := h w _ hw.chunks }
theorem OW.gather {ops : Array Oper} {rest : List Oper} {H1 ps r : List HP} (is : List Nat) (m : Nat) (hs : E.sels H is = some H1) (h2 : spl H1 m = some (ps, r)) (k : OW P n w0 F ops K rest l (HP.bag ps :: r)) : OW P n w0 F ops K rest l H :=
  OW.sels is hs (OW.conv (fun w U h => by rw [spl_eq h2] at h; exact h.gather) k)
end
end E
end Go.Proofs.Ytflkbabhbnmajaa

/- Closed facts on the program (printed by gen.py). -/
namespace Go.Proofs.Ytflkbabhbnmajaa
open Go Go.RowKit
set_option linter.unusedSimpArgs false
set_option linter.unusedVariables false
theorem fa30_0 : E.FA Try.prog 30 0 0 := fun _ _ _ => by kernel_rfl
theorem fa30_1 : E.FA Try.prog 30 1 1 := fun _ _ _ => by kernel_rfl
theorem nm102 : E.Nm Try.prog 102 := ⟨Try.f102, Try.func102, rfl, by kernel_rfl⟩
theorem nm105 : E.Nm Try.prog 105 := ⟨Try.f105, Try.func105, rfl, by kernel_rfl⟩
theorem nm127 : E.Nm Try.prog 127 := ⟨Try.f127, Try.func127, rfl, by kernel_rfl⟩
theorem nm41 : E.Nm Try.prog 41 := ⟨Try.f41, Try.func41, rfl, by kernel_rfl⟩
theorem nm66 : E.Nm Try.prog 66 := ⟨Try.f66, Try.func66, rfl, by kernel_rfl⟩
theorem nm75 : E.Nm Try.prog 75 := ⟨Try.f75, Try.func75, rfl, by kernel_rfl⟩
theorem nm99 : E.Nm Try.prog 99 := ⟨Try.f99, Try.func99, rfl, by kernel_rfl⟩
end Go.Proofs.Ytflkbabhbnmajaa

/- Walks (printed by gen.py). -/
namespace Go.Proofs.Ytflkbabhbnmajaa
open Go Go.RowKit
set_option linter.unusedSimpArgs false
set_option linter.unusedVariables false

set_option maxRecDepth 100000 in
theorem Ow_ok (g : E.Cfg) (p : Int) (w0 : World) (hg : g.rd w0 (E.Old w0)) (hgf : g.q.fit) :
    Calls Try.prog 99 #[g.v, .int .i64 p] w0 (E.Post w0 (E.Old w0) fun v Hn => v = .int .i64 (Rt.owner g.q p) ∧ Hn = []) := by
  obtain ⟨hX1, hX2, hX3, hX4⟩ := id hg
  have hgl := E.Cfg.fit_len hgf
  refine E.calls_of (vs := [g.v, .int .i64 p]) (H := []) Try.func99 Try.ntmps99 rfl rfl (E.HA.start w0) ?_
  refine E.CW.seq ?_
  refine E.CW.region ?_
  refine E.OW.box rfl rfl rfl rfl rfl rfl (fun B1 => ?_)
  refine E.OW.pure rfl rfl rfl (E.PV.assign rfl rfl) ?_
  refine E.OW.nil ?_
  refine E.then_n ?_
  refine E.CW.seq ?_
  refine E.CW.region ?_
  refine E.OW.pure rfl rfl rfl (E.PV.fieldAddr fa28_0 rfl rfl) ?_
  refine E.OW.pure rfl rfl rfl (E.PV.loads (i := 0) is24 rfl rfl rfl rfl) ?_
  refine E.OW.pure rfl rfl rfl (E.PV.move rfl rfl) ?_
  (refine E.OW.call nm41 rfl rfl rfl rfl rfl rfl _ (fun w hw => Owner_ok _ _ _ _ g.l p w ?_ ?_) ?_; (focus (omega)); (focus (refine hw.rd ?_; assumption)); rintro _ _ ⟨rfl, rfl⟩)
  refine E.OW.pure rfl rfl rfl (E.PV.move rfl rfl) ?_
  refine E.OW.pure rfl rfl rfl (E.PV.extract rfl rfl rfl) ?_
  refine E.OW.pure rfl rfl rfl (E.PV.extract rfl rfl rfl) ?_
  refine E.OW.pure rfl rfl rfl (E.PV.assign rfl rfl) ?_
  refine E.OW.pure rfl rfl rfl (E.PV.assign rfl rfl) ?_
  refine E.OW.nil ?_
  refine E.then_n ?_
  refine E.CW.seq ?_
  refine E.CW.seq ?_
  refine E.CW.region ?_
  refine E.OW.pure rfl rfl rfl (E.PV.move rfl rfl) ?_
  refine E.OW.pure rfl rfl rfl (E.PV.neq rfl rfl rfl) ?_
  refine E.OW.nil ?_
  refine E.then_n ?_
  refine E.CW.cond rfl (fun hc => ?_) (fun hc => ?_)
  · simp only [E.b0, E.b1, E.b2, E.b3, E.b4, E.b5, E.b6, E.b7, E.b8, E.b9, E.b10, E.b11, E.b12, E.b13, E.b14, E.b15, E.b16, E.b17, E.b18, E.b19, E.b20, reduceCtorEq] at hc
    all_goals (
      refine E.CW.seq ?_
      refine E.CW.region ?_
      refine E.OW.pure rfl rfl rfl (E.PV.assign rfl rfl) ?_
      refine E.OW.nil ?_
      refine E.then_n ?_
      refine E.CW.ret ?_
      refine E.then_ret ?_
      refine E.KR.one [] Try.results99 rfl rfl ?_
      exact ⟨(congrArg (Value.int .i64) (show Rt.owner g.q p = -1 from if_neg (show ¬ (Fl.owner g.a g.b g.l p).2 = 0 by assumption))).symm, rfl⟩)
  · simp only [E.b0, E.b1, E.b2, E.b3, E.b4, E.b5, E.b6, E.b7, E.b8, E.b9, E.b10, E.b11, E.b12, E.b13, E.b14, E.b15, E.b16, E.b17, E.b18, E.b19, E.b20, reduceCtorEq] at hc
    all_goals (
      refine E.CW.skip ?_
      refine E.then_n ?_
      refine E.CW.seq ?_
      refine E.CW.region ?_
      refine E.OW.pure rfl rfl rfl (E.PV.move rfl rfl) ?_
      refine E.OW.pure rfl rfl rfl (E.PV.assign rfl rfl) ?_
      refine E.OW.nil ?_
      refine E.then_n ?_
      refine E.CW.ret ?_
      refine E.KR.one [] Try.results99 rfl rfl ?_
      exact ⟨(congrArg (Value.int .i64) (show Rt.owner g.q p = (Fl.owner g.a g.b g.l p).1 from if_pos (show (Fl.owner g.a g.b g.l p).2 = 0 by assumption))).symm, rfl⟩)

theorem PnV_ok (g : E.Cfg) (t : Int) (w0 : World) (hg : g.rd w0 (E.Old w0)) (hgf : g.q.fit) (hcz : Cf.check g.q = 0) :
    Calls Try.prog 105 #[g.v, .int .i64 t] w0 (E.Post w0 (E.Old w0) fun v Hn => v = .tuple #[.bool (Cf.present g.q.ts t), .int .i64 (Rt.pe g.q.ts t)] ∧ Hn = []) := by
  have h := Pn_ok g t w0 hg hgf
  rw [Rt.pres hcz] at h
  exact h

set_option maxRecDepth 100000 in
theorem Ask_ok (g : E.Cfg) (t tick : Int) (w0 : World) (hg : g.rd w0 (E.Old w0)) (hgf : g.q.fit) (ht : 0 ≤ tick ∧ tick < 18446744073709551616) :
    Calls Try.prog 66 #[g.v, .int .i64 t, .int .u64 tick] w0 (E.Post w0 (E.Old w0) fun v Hn => v = .int .i64 (Rt.asked g.q t tick) ∧ Hn = []) := by
  obtain ⟨hX1, hX2, hX3, hX4⟩ := id hg
  have hgl := E.Cfg.fit_len hgf
  refine E.calls_of (vs := [g.v, .int .i64 t, .int .u64 tick]) (H := []) Try.func66 Try.ntmps66 rfl rfl (E.HA.start w0) ?_
  refine E.CW.seq ?_
  refine E.CW.region ?_
  refine E.OW.box rfl rfl rfl rfl rfl rfl (fun B1 => ?_)
  refine E.OW.pure rfl rfl rfl (E.PV.assign rfl rfl) ?_
  refine E.OW.nil ?_
  refine E.then_n ?_
  refine E.CW.seq ?_
  refine E.CW.seq ?_
  refine E.CW.region ?_
  refine E.OW.pure rfl rfl rfl (E.PV.loads (i := 0) is28 rfl rfl rfl rfl) ?_
  (refine E.OW.call nm87 rfl rfl rfl rfl rfl rfl _ (fun w hw => Ck_ok g w ?_ ?_) ?_; (focus (refine hw.rdC ?_; assumption)); (focus (assumption)); rintro _ _ ⟨rfl, rfl⟩)
  refine E.OW.pure rfl rfl rfl (E.PV.assign rfl rfl) ?_
  refine E.OW.nil ?_
  refine E.then_n ?_
  refine E.CW.seq ?_
  refine E.CW.region ?_
  refine E.OW.pure rfl rfl rfl (E.PV.move rfl rfl) ?_
  refine E.OW.pure rfl rfl rfl (E.PV.neq rfl rfl rfl) ?_
  refine E.OW.nil ?_
  refine E.then_n ?_
  refine E.CW.cond rfl (fun hc => ?_) (fun hc => ?_)
  · simp only [E.b0, E.b1, E.b2, E.b3, E.b4, E.b5, E.b6, E.b7, E.b8, E.b9, E.b10, E.b11, E.b12, E.b13, E.b14, E.b15, E.b16, E.b17, E.b18, E.b19, E.b20, reduceCtorEq] at hc
    all_goals (
      refine E.CW.seq ?_
      refine E.CW.region ?_
      refine E.OW.pure rfl rfl rfl (E.PV.move rfl rfl) ?_
      refine E.OW.pure rfl rfl rfl (E.PV.assign rfl rfl) ?_
      refine E.OW.nil ?_
      refine E.then_n ?_
      refine E.CW.ret ?_
      refine E.then_ret ?_
      refine E.KR.one [] Try.results66 rfl rfl ?_
      exact ⟨by rw [Rt.asked_bad (by assumption)], rfl⟩)
  · simp only [E.b0, E.b1, E.b2, E.b3, E.b4, E.b5, E.b6, E.b7, E.b8, E.b9, E.b10, E.b11, E.b12, E.b13, E.b14, E.b15, E.b16, E.b17, E.b18, E.b19, E.b20, reduceCtorEq] at hc
    all_goals (
      refine E.CW.skip ?_
      refine E.then_n ?_
      refine E.CW.seq ?_
      refine E.CW.seq ?_
      have hcz : Cf.check g.q = 0 := by assumption
      refine E.CW.region ?_
      refine E.OW.pure rfl rfl rfl (E.PV.loads (i := 0) is28 rfl rfl rfl rfl) ?_
      refine E.OW.pure rfl rfl rfl (E.PV.move rfl rfl) ?_
      (refine E.OW.call nm105 rfl rfl rfl rfl rfl rfl _ (fun w hw => PnV_ok g t w ?_ ?_ hcz) ?_; (focus (refine hw.rdC ?_; assumption)); (focus (assumption)); rintro _ _ ⟨rfl, rfl⟩)
      refine E.OW.pure rfl rfl rfl (E.PV.move rfl rfl) ?_
      refine E.OW.pure rfl rfl rfl (E.PV.extract rfl rfl rfl) ?_
      refine E.OW.pure rfl rfl rfl (E.PV.extract rfl rfl rfl) ?_
      refine E.OW.pure rfl rfl rfl (E.PV.assign rfl rfl) ?_
      refine E.OW.pure rfl rfl rfl (E.PV.assign rfl rfl) ?_
      refine E.OW.nil ?_
      refine E.then_n ?_
      refine E.CW.seq ?_
      refine E.CW.region ?_
      refine E.OW.pure rfl rfl rfl (E.PV.move rfl rfl) ?_
      refine E.OW.pure rfl rfl rfl (E.PV.neq rfl rfl rfl) ?_
      refine E.OW.pure rfl rfl rfl (E.PV.move rfl rfl) ?_
      all_goals (refine E.OW.split 23 rfl (fun hc => ?_) (fun hc => ?_) <;> (try simp only [E.b0, E.b1, E.b2, E.b3, E.b4, E.b5, E.b6, E.b7, E.b8, E.b9, E.b10, E.b11, E.b12, E.b13, E.b14, E.b15, E.b16, E.b17, E.b18, E.b19, E.b20, reduceCtorEq] at hc) <;> (try (exfalso; first | assumption | contradiction | omega)))
      all_goals (first | (refine E.OW.off rfl rfl rfl ?_) | (refine E.OW.pure rfl rfl rfl (E.PV.move rfl rfl) ?_))
      all_goals (first | (refine E.OW.off rfl rfl rfl ?_) | (refine E.OW.pure rfl rfl rfl (E.PV.not rfl rfl) ?_))
      all_goals (first | (refine E.OW.pure rfl rfl rfl (E.PV.pick_t rfl rfl rfl) ?_) | (refine E.OW.pure rfl rfl rfl (E.PV.pick_f rfl rfl rfl) ?_))
      all_goals (refine E.OW.pure rfl rfl rfl (E.PV.move rfl rfl) ?_)
      all_goals (first | (refine E.OW.put 27 (.bool true) (v := .bool true) rfl rfl ?_) | (refine E.OW.split 27 rfl (fun hc => ?_) (fun hc => ?_) <;> (try simp only [E.b0, E.b1, E.b2, E.b3, E.b4, E.b5, E.b6, E.b7, E.b8, E.b9, E.b10, E.b11, E.b12, E.b13, E.b14, E.b15, E.b16, E.b17, E.b18, E.b19, E.b20, reduceCtorEq] at hc) <;> (try (exfalso; first | assumption | contradiction | omega))))
      all_goals (first | (refine E.OW.off rfl rfl rfl ?_) | (refine E.OW.pure rfl rfl rfl (E.PV.move rfl rfl) ?_))
      all_goals (first | (refine E.OW.off rfl rfl rfl ?_) | (refine E.OW.pure rfl rfl rfl (E.PV.gtr rfl rfl rfl) ?_))
      all_goals (first | (refine E.OW.pure rfl rfl rfl (E.PV.pick_t rfl rfl rfl) ?_) | (refine E.OW.pure rfl rfl rfl (E.PV.pick_f rfl rfl rfl) ?_))
      all_goals (
        refine E.OW.nil ?_
        refine E.then_n ?_
        refine E.CW.cond rfl (fun hc => ?_) (fun hc => ?_)
        · simp only [E.b0, E.b1, E.b2, E.b3, E.b4, E.b5, E.b6, E.b7, E.b8, E.b9, E.b10, E.b11, E.b12, E.b13, E.b14, E.b15, E.b16, E.b17, E.b18, E.b19, E.b20, reduceCtorEq] at hc
          all_goals (
            refine E.CW.seq ?_
            refine E.CW.region ?_
            refine E.OW.pure rfl rfl rfl (E.PV.assign rfl rfl) ?_
            refine E.OW.nil ?_
            refine E.then_n ?_
            refine E.CW.ret ?_
            refine E.then_ret ?_
            refine E.KR.one [] Try.results66 rfl rfl ?_
            exact ⟨by rw [Rt.asked_arg hcz (by first | (left; assumption) | (left; exact Rt.pe_bad (by assumption)) | (right; omega))], rfl⟩)
        · first | ((cases hc; done)) | (simp only [E.b0, E.b1, E.b2, E.b3, E.b4, E.b5, E.b6, E.b7, E.b8, E.b9, E.b10, E.b11, E.b12, E.b13, E.b14, E.b15, E.b16, E.b17, E.b18, E.b19, E.b20, reduceCtorEq] at hc)
          all_goals (
            refine E.CW.skip ?_
            refine E.then_n ?_
            refine E.CW.seq ?_
            refine E.CW.region ?_
            refine E.OW.pure rfl rfl rfl (E.PV.assign rfl rfl) ?_
            refine E.OW.nil ?_
            refine E.then_n ?_
            refine E.CW.ret ?_
            refine E.KR.one [] Try.results66 rfl rfl ?_
            exact ⟨by rw [Rt.asked_ok hcz (by assumption) (by omega)], rfl⟩)))

set_option maxRecDepth 100000 in
theorem Al_ok (g : E.Cfg) (t p tick : Int) (w0 : World) (hg : g.rd w0 (E.Old w0)) (hgf : g.q.fit) (ht : 0 ≤ tick ∧ tick < 18446744073709551616) :
    Calls Try.prog 75 #[g.v, .int .i64 t, .int .i64 p, .int .u64 tick] w0 (E.Post w0 (E.Old w0) fun v Hn => v = .bool (Rt.allows g.q t p tick) ∧ Hn = []) := by
  obtain ⟨hX1, hX2, hX3, hX4⟩ := id hg
  have hgl := E.Cfg.fit_len hgf
  refine E.calls_of (vs := [g.v, .int .i64 t, .int .i64 p, .int .u64 tick]) (H := []) Try.func75 Try.ntmps75 rfl rfl (E.HA.start w0) ?_
  refine E.CW.seq ?_
  refine E.CW.region ?_
  refine E.OW.box rfl rfl rfl rfl rfl rfl (fun B1 => ?_)
  refine E.OW.pure rfl rfl rfl (E.PV.assign rfl rfl) ?_
  refine E.OW.nil ?_
  refine E.then_n ?_
  refine E.CW.seq ?_
  refine E.CW.seq ?_
  refine E.CW.region ?_
  refine E.OW.pure rfl rfl rfl (E.PV.loads (i := 0) is28 rfl rfl rfl rfl) ?_
  refine E.OW.pure rfl rfl rfl (E.PV.move rfl rfl) ?_
  (refine E.OW.call nm99 rfl rfl rfl rfl rfl rfl _ (fun w hw => Ow_ok g p w ?_ ?_) ?_; (focus (refine hw.rdC ?_; assumption)); (focus (assumption)); rintro _ _ ⟨rfl, rfl⟩)
  refine E.OW.pure rfl rfl rfl (E.PV.assign rfl rfl) ?_
  refine E.OW.nil ?_
  refine E.then_n ?_
  refine E.CW.seq ?_
  refine E.CW.region ?_
  refine E.OW.pure rfl rfl rfl (E.PV.move rfl rfl) ?_
  refine E.OW.nil ?_
  refine E.then_n ?_
  refine E.CW.block ?_
  refine E.CW.seq ?_
  refine E.CW.region ?_
  refine E.OW.pure rfl rfl rfl (E.PV.move rfl rfl) ?_
  refine E.OW.pure rfl rfl rfl (E.PV.eql rfl rfl rfl) ?_
  refine E.OW.pure rfl rfl rfl (E.PV.assign rfl rfl) ?_
  refine E.OW.nil ?_
  refine E.then_n ?_
  refine E.CW.cond rfl (fun hc => ?_) (fun hc => ?_)
  · simp only [E.b0, E.b1, E.b2, E.b3, E.b4, E.b5, E.b6, E.b7, E.b8, E.b9, E.b10, E.b11, E.b12, E.b13, E.b14, E.b15, E.b16, E.b17, E.b18, E.b19, E.b20, reduceCtorEq] at hc
    all_goals (
      refine E.CW.seq ?_
      refine E.CW.region ?_
      refine E.OW.pure rfl rfl rfl (E.PV.assign rfl rfl) ?_
      refine E.OW.nil ?_
      refine E.then_n ?_
      refine E.CW.ret ?_
      refine E.blk_ret ?_
      refine E.then_ret ?_
      refine E.KR.one [] Try.results75 rfl rfl ?_
      exact ⟨(congrArg (Value.bool) (show Rt.allows g.q t p tick = true from if_pos (by assumption))).symm, rfl⟩)
  · simp only [E.b0, E.b1, E.b2, E.b3, E.b4, E.b5, E.b6, E.b7, E.b8, E.b9, E.b10, E.b11, E.b12, E.b13, E.b14, E.b15, E.b16, E.b17, E.b18, E.b19, E.b20, reduceCtorEq] at hc
    all_goals (
      refine E.CW.seq ?_
      refine E.CW.region ?_
      refine E.OW.pure rfl rfl rfl (E.PV.eql rfl rfl rfl) ?_
      refine E.OW.pure rfl rfl rfl (E.PV.assign rfl rfl) ?_
      refine E.OW.nil ?_
      refine E.then_n ?_
      refine E.CW.cond rfl (fun hc => ?_) (fun hc => ?_)
      · simp only [E.b0, E.b1, E.b2, E.b3, E.b4, E.b5, E.b6, E.b7, E.b8, E.b9, E.b10, E.b11, E.b12, E.b13, E.b14, E.b15, E.b16, E.b17, E.b18, E.b19, E.b20, reduceCtorEq] at hc
        all_goals (
          refine E.CW.seq ?_
          refine E.CW.region ?_
          refine E.OW.pure rfl rfl rfl (E.PV.fieldAddr fa28_1 rfl rfl) ?_
          refine E.OW.pure rfl rfl rfl (E.PV.load (i := 0) na22 rfl rfl rfl rfl) ?_
          refine E.OW.pure rfl rfl rfl (E.PV.move rfl rfl) ?_
          (refine E.OW.call nm102 rfl rfl rfl rfl rfl rfl _ (fun w hw => SliceOwner_ok _ _ g.s tick ?_ w ?_ ?_) ?_; (focus (assumption)); (focus (omega)); (focus (refine hw.rd ?_; assumption)); rintro _ _ ⟨rfl, rfl⟩)
          refine E.OW.pure rfl rfl rfl (E.PV.move rfl rfl) ?_
          refine E.OW.pure rfl rfl rfl (E.PV.extract rfl rfl rfl) ?_
          refine E.OW.pure rfl rfl rfl (E.PV.extract rfl rfl rfl) ?_
          refine E.OW.pure rfl rfl rfl (E.PV.assign rfl rfl) ?_
          refine E.OW.pure rfl rfl rfl (E.PV.assign rfl rfl) ?_
          refine E.OW.nil ?_
          refine E.then_n ?_
          refine E.CW.seq ?_
          refine E.CW.region ?_
          refine E.OW.pure rfl rfl rfl (E.PV.move rfl rfl) ?_
          refine E.OW.pure rfl rfl rfl (E.PV.eql rfl rfl rfl) ?_
          refine E.OW.pure rfl rfl rfl (E.PV.move rfl rfl) ?_
          all_goals (refine E.OW.split 30 rfl (fun hc => ?_) (fun hc => ?_) <;> (try simp only [E.b0, E.b1, E.b2, E.b3, E.b4, E.b5, E.b6, E.b7, E.b8, E.b9, E.b10, E.b11, E.b12, E.b13, E.b14, E.b15, E.b16, E.b17, E.b18, E.b19, E.b20, reduceCtorEq] at hc) <;> (try (exfalso; first | assumption | contradiction | omega)))
          all_goals (first | (refine E.OW.off rfl rfl rfl ?_) | (refine E.OW.pure rfl rfl rfl (E.PV.move rfl rfl) ?_))
          all_goals (first | (refine E.OW.off rfl rfl rfl ?_) | (refine E.OW.pure rfl rfl rfl (E.PV.move rfl rfl) ?_))
          all_goals (first | (refine E.OW.off rfl rfl rfl ?_) | (refine E.OW.pure rfl rfl rfl (E.PV.eql rfl rfl rfl) ?_))
          all_goals (first | (refine E.OW.pure rfl rfl rfl (E.PV.pick_t rfl rfl rfl) ?_) | (refine E.OW.pure rfl rfl rfl (E.PV.pick_f rfl rfl rfl) ?_))
          all_goals (refine E.OW.pure rfl rfl rfl (E.PV.assign rfl rfl) ?_)
          all_goals (
            refine E.OW.nil ?_
            refine E.then_n ?_
            refine E.CW.ret ?_
            refine E.blk_ret ?_
            refine E.then_ret ?_
            refine E.KR.one [] Try.results75 rfl rfl ?_
            exact ⟨congrArg Value.bool (by first | exact (Rt.al_yes (by assumption) (by assumption) (by assumption)).symm | exact (Rt.al_no (by assumption) (by assumption) (by assumption)).symm), rfl⟩))
      · simp only [E.b0, E.b1, E.b2, E.b3, E.b4, E.b5, E.b6, E.b7, E.b8, E.b9, E.b10, E.b11, E.b12, E.b13, E.b14, E.b15, E.b16, E.b17, E.b18, E.b19, E.b20, reduceCtorEq] at hc
        all_goals (
          refine E.CW.skip ?_
          refine E.blk_n ?_
          refine E.then_n ?_
          refine E.CW.seq ?_
          refine E.CW.region ?_
          refine E.OW.pure rfl rfl rfl (E.PV.assign rfl rfl) ?_
          refine E.OW.nil ?_
          refine E.then_n ?_
          refine E.CW.ret ?_
          refine E.KR.one [] Try.results75 rfl rfl ?_
          exact ⟨(congrArg (Value.bool) (show Rt.allows g.q t p tick = false from (if_neg (by assumption)).trans (if_neg (by assumption)))).symm, rfl⟩))

set_option maxRecDepth 100000 in
theorem Le_ok (g : E.Cfg) (t a b tick : Int) (w0 : World) (hg : g.rd w0 (E.Old w0)) (hgf : g.q.fit) (ht : 0 ≤ tick ∧ tick < 18446744073709551616) :
    Calls Try.prog 58 #[g.v, .int .i64 t, .agg #[.int .i64 a, .int .i64 b], .int .u64 tick] w0 (E.Post w0 (E.Old w0) fun v Hn => v = .int .i64 (Rt.legE g.q t a b tick) ∧ Hn = []) := by
  obtain ⟨hX1, hX2, hX3, hX4⟩ := id hg
  have hgl := E.Cfg.fit_len hgf
  refine E.calls_of (vs := [g.v, .int .i64 t, .agg #[.int .i64 a, .int .i64 b], .int .u64 tick]) (H := []) Try.func58 Try.ntmps58 rfl rfl (E.HA.start w0) ?_
  refine E.CW.seq ?_
  refine E.CW.region ?_
  refine E.OW.box rfl rfl rfl rfl rfl rfl (fun B1 => ?_)
  refine E.OW.box rfl rfl rfl rfl rfl rfl (fun B2 => ?_)
  refine E.OW.pure rfl rfl rfl (E.PV.assign rfl rfl) ?_
  refine E.OW.nil ?_
  refine E.then_n ?_
  refine E.CW.seq ?_
  refine E.CW.seq ?_
  refine E.CW.region ?_
  refine E.OW.pure rfl rfl rfl (E.PV.loads (i := 1) is28 rfl rfl rfl rfl) ?_
  refine E.OW.pure rfl rfl rfl (E.PV.move rfl rfl) ?_
  refine E.OW.pure rfl rfl rfl (E.PV.move rfl rfl) ?_
  (refine E.OW.call nm66 rfl rfl rfl rfl rfl rfl _ (fun w hw => Ask_ok g t tick w ?_ ?_ ?_) ?_; (focus (refine hw.rdC ?_; assumption)); (focus (assumption)); (focus (assumption)); rintro _ _ ⟨rfl, rfl⟩)
  refine E.OW.pure rfl rfl rfl (E.PV.assign rfl rfl) ?_
  refine E.OW.nil ?_
  refine E.then_n ?_
  refine E.CW.seq ?_
  refine E.CW.region ?_
  refine E.OW.pure rfl rfl rfl (E.PV.move rfl rfl) ?_
  refine E.OW.pure rfl rfl rfl (E.PV.neq rfl rfl rfl) ?_
  refine E.OW.nil ?_
  refine E.then_n ?_
  refine E.CW.cond rfl (fun hc => ?_) (fun hc => ?_)
  · simp only [E.b0, E.b1, E.b2, E.b3, E.b4, E.b5, E.b6, E.b7, E.b8, E.b9, E.b10, E.b11, E.b12, E.b13, E.b14, E.b15, E.b16, E.b17, E.b18, E.b19, E.b20, reduceCtorEq] at hc
    all_goals (
      refine E.CW.seq ?_
      refine E.CW.region ?_
      refine E.OW.pure rfl rfl rfl (E.PV.move rfl rfl) ?_
      refine E.OW.pure rfl rfl rfl (E.PV.assign rfl rfl) ?_
      refine E.OW.nil ?_
      refine E.then_n ?_
      refine E.CW.ret ?_
      refine E.then_ret ?_
      refine E.KR.one [] Try.results58 rfl rfl ?_
      exact ⟨(congrArg (Value.int .i64) (show Rt.legE g.q t a b tick = Rt.asked g.q t tick from if_neg (by assumption))).symm, rfl⟩)
  · simp only [E.b0, E.b1, E.b2, E.b3, E.b4, E.b5, E.b6, E.b7, E.b8, E.b9, E.b10, E.b11, E.b12, E.b13, E.b14, E.b15, E.b16, E.b17, E.b18, E.b19, E.b20, reduceCtorEq] at hc
    all_goals (
      refine E.CW.skip ?_
      refine E.then_n ?_
      refine E.CW.seq ?_
      have haz : Rt.asked g.q t tick = 0 := by assumption
      refine E.CW.region ?_
      refine E.OW.pure rfl rfl rfl (E.PV.loads (i := 1) is28 rfl rfl rfl rfl) ?_
      refine E.OW.pure rfl rfl rfl (E.PV.fieldAddr fa30_0 rfl rfl) ?_
      refine E.OW.pure rfl rfl rfl (E.PV.load (i := 0) na3 rfl rfl rfl rfl) ?_
      (refine E.OW.call nm99 rfl rfl rfl rfl rfl rfl _ (fun w hw => Ow_ok g a w ?_ ?_) ?_; (focus (refine hw.rdC ?_; assumption)); (focus (assumption)); rintro _ _ ⟨rfl, rfl⟩)
      refine E.OW.pure rfl rfl rfl (E.PV.assign rfl rfl) ?_
      refine E.OW.nil ?_
      refine E.then_n ?_
      refine E.CW.seq ?_
      refine E.CW.seq ?_
      refine E.CW.region ?_
      refine E.OW.pure rfl rfl rfl (E.PV.loads (i := 1) is28 rfl rfl rfl rfl) ?_
      refine E.OW.pure rfl rfl rfl (E.PV.fieldAddr fa30_1 rfl rfl) ?_
      refine E.OW.pure rfl rfl rfl (E.PV.load (i := 0) na3 rfl rfl rfl rfl) ?_
      (refine E.OW.call nm99 rfl rfl rfl rfl rfl rfl _ (fun w hw => Ow_ok g b w ?_ ?_) ?_; (focus (refine hw.rdC ?_; assumption)); (focus (assumption)); rintro _ _ ⟨rfl, rfl⟩)
      refine E.OW.pure rfl rfl rfl (E.PV.move rfl rfl) ?_
      refine E.OW.pure rfl rfl rfl (E.PV.neq rfl rfl rfl) ?_
      refine E.OW.pure rfl rfl rfl (E.PV.move rfl rfl) ?_
      all_goals (refine E.OW.split 28 rfl (fun hc => ?_) (fun hc => ?_) <;> (try simp only [E.b0, E.b1, E.b2, E.b3, E.b4, E.b5, E.b6, E.b7, E.b8, E.b9, E.b10, E.b11, E.b12, E.b13, E.b14, E.b15, E.b16, E.b17, E.b18, E.b19, E.b20, reduceCtorEq] at hc) <;> (try (exfalso; first | assumption | contradiction | omega)))
      all_goals (first | (refine E.OW.off rfl rfl rfl ?_) | (refine E.OW.pure rfl rfl rfl (E.PV.move rfl rfl) ?_))
      all_goals (first | (refine E.OW.off rfl rfl rfl ?_) | (refine E.OW.pure rfl rfl rfl (E.PV.move rfl rfl) ?_))
      all_goals (first | (refine E.OW.off rfl rfl rfl ?_) | (refine E.OW.pure rfl rfl rfl (E.PV.neq rfl rfl rfl) ?_))
      all_goals (first | (refine E.OW.off rfl rfl rfl ?_) | (refine E.OW.pure rfl rfl rfl (E.PV.move rfl rfl) ?_))
      all_goals (first | (refine E.OW.put 32 (.tuple #[]) (v := .tuple #[]) rfl rfl ?_) | (refine E.OW.split 32 rfl (fun hc => ?_) (fun hc => ?_) <;> (try simp only [E.b0, E.b1, E.b2, E.b3, E.b4, E.b5, E.b6, E.b7, E.b8, E.b9, E.b10, E.b11, E.b12, E.b13, E.b14, E.b15, E.b16, E.b17, E.b18, E.b19, E.b20, reduceCtorEq] at hc) <;> (try (exfalso; first | assumption | contradiction | omega))))
      all_goals (first | (refine E.OW.off rfl rfl rfl ?_) | (refine E.OW.pure rfl rfl rfl (E.PV.move rfl rfl) ?_))
      all_goals (first | (refine E.OW.off rfl rfl rfl ?_) | (refine E.OW.pure rfl rfl rfl (E.PV.neq rfl rfl rfl) ?_))
      all_goals (first | (refine E.OW.off rfl rfl rfl ?_) | (first | (refine E.OW.pure rfl rfl rfl (E.PV.pick_t rfl rfl rfl) ?_) | (refine E.OW.pure rfl rfl rfl (E.PV.pick_f rfl rfl rfl) ?_)))
      all_goals (first | (refine E.OW.pure rfl rfl rfl (E.PV.pick_t rfl rfl rfl) ?_) | (refine E.OW.pure rfl rfl rfl (E.PV.pick_f rfl rfl rfl) ?_))
      all_goals (
        refine E.OW.nil ?_
        refine E.then_n ?_
        refine E.CW.cond rfl (fun hc => ?_) (fun hc => ?_)
        · first | ((cases hc; done)) | (simp only [E.b0, E.b1, E.b2, E.b3, E.b4, E.b5, E.b6, E.b7, E.b8, E.b9, E.b10, E.b11, E.b12, E.b13, E.b14, E.b15, E.b16, E.b17, E.b18, E.b19, E.b20, reduceCtorEq] at hc)
          all_goals (
            refine E.CW.seq ?_
            refine E.CW.region ?_
            refine E.OW.pure rfl rfl rfl (E.PV.assign rfl rfl) ?_
            refine E.OW.nil ?_
            refine E.then_n ?_
            refine E.CW.ret ?_
            refine E.then_ret ?_
            refine E.KR.one [] Try.results58 rfl rfl ?_
            exact ⟨(congrArg (Value.int .i64) (show Rt.legE g.q t a b tick = 2 from (if_pos haz).trans (if_neg (by simp [Rt.onLeg, *])))).symm, rfl⟩)
        · first | ((cases hc; done)) | (simp only [E.b0, E.b1, E.b2, E.b3, E.b4, E.b5, E.b6, E.b7, E.b8, E.b9, E.b10, E.b11, E.b12, E.b13, E.b14, E.b15, E.b16, E.b17, E.b18, E.b19, E.b20, reduceCtorEq] at hc)
          all_goals (
            refine E.CW.skip ?_
            refine E.then_n ?_
            refine E.CW.seq ?_
            refine E.CW.region ?_
            refine E.OW.pure rfl rfl rfl (E.PV.assign rfl rfl) ?_
            refine E.OW.nil ?_
            refine E.then_n ?_
            refine E.CW.ret ?_
            refine E.KR.one [] Try.results58 rfl rfl ?_
            exact ⟨(congrArg (Value.int .i64) (show Rt.legE g.q t a b tick = 0 from (if_pos haz).trans (if_pos (by simp [Rt.onLeg, *])))).symm, rfl⟩)))

set_option maxRecDepth 100000 in
theorem Ad_ok (g : E.Cfg) (t p tick : Int) (w0 : World) (hg : g.rd w0 (E.Old w0)) (hgf : g.q.fit) (ht : 0 ≤ tick ∧ tick < 18446744073709551616) :
    Calls Try.prog 31 #[g.v, .int .i64 t, .int .i64 p, .int .u64 tick] w0 (E.Post w0 (E.Old w0) fun v Hn => v = .tuple #[.bool (Rt.allowed g.q t p tick).1, .int .i64 (Rt.allowed g.q t p tick).2] ∧ Hn = []) := by
  obtain ⟨hX1, hX2, hX3, hX4⟩ := id hg
  have hgl := E.Cfg.fit_len hgf
  refine E.calls_of (vs := [g.v, .int .i64 t, .int .i64 p, .int .u64 tick]) (H := []) Try.func31 Try.ntmps31 rfl rfl (E.HA.start w0) ?_
  refine E.CW.seq ?_
  refine E.CW.region ?_
  refine E.OW.box rfl rfl rfl rfl rfl rfl (fun B1 => ?_)
  refine E.OW.pure rfl rfl rfl (E.PV.assign rfl rfl) ?_
  refine E.OW.pure rfl rfl rfl (E.PV.assign rfl rfl) ?_
  refine E.OW.nil ?_
  refine E.then_n ?_
  refine E.CW.seq ?_
  refine E.CW.seq ?_
  refine E.CW.region ?_
  refine E.OW.pure rfl rfl rfl (E.PV.loads (i := 0) is28 rfl rfl rfl rfl) ?_
  refine E.OW.pure rfl rfl rfl (E.PV.move rfl rfl) ?_
  refine E.OW.pure rfl rfl rfl (E.PV.move rfl rfl) ?_
  (refine E.OW.call nm66 rfl rfl rfl rfl rfl rfl _ (fun w hw => Ask_ok g t tick w ?_ ?_ ?_) ?_; (focus (refine hw.rdC ?_; assumption)); (focus (assumption)); (focus (assumption)); rintro _ _ ⟨rfl, rfl⟩)
  refine E.OW.pure rfl rfl rfl (E.PV.assign rfl rfl) ?_
  refine E.OW.nil ?_
  refine E.then_n ?_
  refine E.CW.seq ?_
  refine E.CW.region ?_
  refine E.OW.pure rfl rfl rfl (E.PV.move rfl rfl) ?_
  refine E.OW.pure rfl rfl rfl (E.PV.neq rfl rfl rfl) ?_
  refine E.OW.nil ?_
  refine E.then_n ?_
  refine E.CW.cond rfl (fun hc => ?_) (fun hc => ?_)
  · simp only [E.b0, E.b1, E.b2, E.b3, E.b4, E.b5, E.b6, E.b7, E.b8, E.b9, E.b10, E.b11, E.b12, E.b13, E.b14, E.b15, E.b16, E.b17, E.b18, E.b19, E.b20, reduceCtorEq] at hc
    all_goals (
      refine E.CW.seq ?_
      refine E.CW.region ?_
      refine E.OW.pure rfl rfl rfl (E.PV.move rfl rfl) ?_
      refine E.OW.pure rfl rfl rfl (E.PV.assign rfl rfl) ?_
      refine E.OW.pure rfl rfl rfl (E.PV.assign rfl rfl) ?_
      refine E.OW.nil ?_
      refine E.then_n ?_
      refine E.CW.ret ?_
      refine E.then_ret ?_
      refine E.KR.two [] Try.results31 rfl rfl rfl ?_
      exact ⟨by rw [Rt.ad_bad (by assumption)], rfl⟩)
  · simp only [E.b0, E.b1, E.b2, E.b3, E.b4, E.b5, E.b6, E.b7, E.b8, E.b9, E.b10, E.b11, E.b12, E.b13, E.b14, E.b15, E.b16, E.b17, E.b18, E.b19, E.b20, reduceCtorEq] at hc
    all_goals (
      refine E.CW.skip ?_
      refine E.then_n ?_
      refine E.CW.seq ?_
      refine E.CW.seq ?_
      have haz : Rt.asked g.q t tick = 0 := by assumption
      refine E.CW.region ?_
      refine E.OW.pure rfl rfl rfl (E.PV.move rfl rfl) ?_
      refine E.OW.pure rfl rfl rfl (E.PV.lss rfl rfl rfl) ?_
      refine E.OW.pure rfl rfl rfl (E.PV.move rfl rfl) ?_
      all_goals (refine E.OW.split 20 rfl (fun hc => ?_) (fun hc => ?_) <;> (try simp only [E.b0, E.b1, E.b2, E.b3, E.b4, E.b5, E.b6, E.b7, E.b8, E.b9, E.b10, E.b11, E.b12, E.b13, E.b14, E.b15, E.b16, E.b17, E.b18, E.b19, E.b20, reduceCtorEq] at hc) <;> (try (exfalso; first | assumption | contradiction | omega)))
      all_goals (first | (refine E.OW.off rfl rfl rfl ?_) | (refine E.OW.pure rfl rfl rfl (E.PV.move rfl rfl) ?_))
      all_goals (first | (refine E.OW.off rfl rfl rfl ?_) | (refine E.OW.pure rfl rfl rfl (E.PV.fieldAddr fa28_0 rfl rfl) ?_))
      all_goals (first | (refine E.OW.off rfl rfl rfl ?_) | (refine E.OW.pure rfl rfl rfl (E.PV.fieldAddr fa24_2 rfl rfl) ?_))
      all_goals (first | (refine E.OW.off rfl rfl rfl ?_) | (refine E.OW.pure rfl rfl rfl (E.PV.load (i := 0) na22 rfl rfl rfl rfl) ?_))
      all_goals (first | (refine E.OW.off rfl rfl rfl ?_) | (refine E.OW.pure rfl rfl rfl (E.PV.len Try.underlying22 rfl rfl) ?_))
      all_goals (first | (refine E.OW.off rfl rfl rfl ?_) | (refine E.OW.pure rfl rfl rfl (E.PV.geq rfl rfl rfl) ?_))
      all_goals (first | (refine E.OW.pure rfl rfl rfl (E.PV.pick_t rfl rfl rfl) ?_) | (refine E.OW.pure rfl rfl rfl (E.PV.pick_f rfl rfl rfl) ?_))
      all_goals (
        refine E.OW.nil ?_
        refine E.then_n ?_
        refine E.CW.cond rfl (fun hc => ?_) (fun hc => ?_)
        · simp only [E.b0, E.b1, E.b2, E.b3, E.b4, E.b5, E.b6, E.b7, E.b8, E.b9, E.b10, E.b11, E.b12, E.b13, E.b14, E.b15, E.b16, E.b17, E.b18, E.b19, E.b20, reduceCtorEq] at hc
          all_goals (
            refine E.CW.seq ?_
            refine E.CW.region ?_
            refine E.OW.pure rfl rfl rfl (E.PV.assign rfl rfl) ?_
            refine E.OW.pure rfl rfl rfl (E.PV.assign rfl rfl) ?_
            refine E.OW.nil ?_
            refine E.then_n ?_
            refine E.CW.ret ?_
            refine E.then_ret ?_
            refine E.KR.two [] Try.results31 rfl rfl rfl ?_
            exact ⟨by rw [Rt.ad_off haz (by show ¬ (0 ≤ p ∧ p < (g.l.length : Int)); omega)], rfl⟩)
        · first | ((cases hc; done)) | (simp only [E.b0, E.b1, E.b2, E.b3, E.b4, E.b5, E.b6, E.b7, E.b8, E.b9, E.b10, E.b11, E.b12, E.b13, E.b14, E.b15, E.b16, E.b17, E.b18, E.b19, E.b20, reduceCtorEq] at hc)
          all_goals (
            refine E.CW.skip ?_
            refine E.then_n ?_
            refine E.CW.seq ?_
            refine E.CW.region ?_
            refine E.OW.pure rfl rfl rfl (E.PV.loads (i := 0) is28 rfl rfl rfl rfl) ?_
            refine E.OW.pure rfl rfl rfl (E.PV.move rfl rfl) ?_
            refine E.OW.pure rfl rfl rfl (E.PV.move rfl rfl) ?_
            refine E.OW.pure rfl rfl rfl (E.PV.move rfl rfl) ?_
            (refine E.OW.call nm75 rfl rfl rfl rfl rfl rfl _ (fun w hw => Al_ok g t p tick w ?_ ?_ ?_) ?_; (focus (refine hw.rdC ?_; assumption)); (focus (assumption)); (focus (assumption)); rintro _ _ ⟨rfl, rfl⟩)
            refine E.OW.pure rfl rfl rfl (E.PV.assign rfl rfl) ?_
            refine E.OW.pure rfl rfl rfl (E.PV.assign rfl rfl) ?_
            refine E.OW.nil ?_
            refine E.then_n ?_
            refine E.CW.ret ?_
            refine E.KR.two [] Try.results31 rfl rfl rfl ?_
            exact ⟨by rw [Rt.ad_on haz (by show 0 ≤ p ∧ p < (g.l.length : Int); omega)], rfl⟩)))

set_option maxRecDepth 100000 in
theorem rOn_ok (g : E.Cfg) (p : Int) (w0 : World) (hg : g.rd w0 (E.Old w0)) (hgf : g.q.fit) :
    Calls Try.prog 62 #[g.v, .int .i64 p] w0 (E.Post w0 (E.Old w0) fun v Hn => v = .bool (Rt.on g.q p) ∧ Hn = []) := by
  obtain ⟨hX1, hX2, hX3, hX4⟩ := id hg
  have hgl := E.Cfg.fit_len hgf
  refine E.calls_of (vs := [g.v, .int .i64 p]) (H := []) Try.func62 Try.ntmps62 rfl rfl (E.HA.start w0) ?_
  refine E.CW.seq ?_
  refine E.CW.region ?_
  refine E.OW.box rfl rfl rfl rfl rfl rfl (fun B1 => ?_)
  refine E.OW.pure rfl rfl rfl (E.PV.assign rfl rfl) ?_
  refine E.OW.nil ?_
  refine E.then_n ?_
  refine E.CW.seq ?_
  refine E.CW.region ?_
  refine E.OW.pure rfl rfl rfl (E.PV.move rfl rfl) ?_
  refine E.OW.pure rfl rfl rfl (E.PV.geq rfl rfl rfl) ?_
  refine E.OW.pure rfl rfl rfl (E.PV.move rfl rfl) ?_
  all_goals (refine E.OW.split 7 rfl (fun hc => ?_) (fun hc => ?_) <;> (try simp only [E.b0, E.b1, E.b2, E.b3, E.b4, E.b5, E.b6, E.b7, E.b8, E.b9, E.b10, E.b11, E.b12, E.b13, E.b14, E.b15, E.b16, E.b17, E.b18, E.b19, E.b20, reduceCtorEq] at hc) <;> (try (exfalso; first | assumption | contradiction | omega)))
  all_goals (first | (refine E.OW.off rfl rfl rfl ?_) | (refine E.OW.pure rfl rfl rfl (E.PV.move rfl rfl) ?_))
  all_goals (first | (refine E.OW.off rfl rfl rfl ?_) | (refine E.OW.pure rfl rfl rfl (E.PV.fieldAddr fa28_0 rfl rfl) ?_))
  all_goals (first | (refine E.OW.off rfl rfl rfl ?_) | (refine E.OW.pure rfl rfl rfl (E.PV.fieldAddr fa24_2 rfl rfl) ?_))
  all_goals (first | (refine E.OW.off rfl rfl rfl ?_) | (refine E.OW.pure rfl rfl rfl (E.PV.load (i := 0) na22 rfl rfl rfl rfl) ?_))
  all_goals (first | (refine E.OW.off rfl rfl rfl ?_) | (refine E.OW.pure rfl rfl rfl (E.PV.len Try.underlying22 rfl rfl) ?_))
  all_goals (first | (refine E.OW.off rfl rfl rfl ?_) | (refine E.OW.pure rfl rfl rfl (E.PV.lss rfl rfl rfl) ?_))
  all_goals (first | (refine E.OW.pure rfl rfl rfl (E.PV.pick_t rfl rfl rfl) ?_) | (refine E.OW.pure rfl rfl rfl (E.PV.pick_f rfl rfl rfl) ?_))
  all_goals (refine E.OW.pure rfl rfl rfl (E.PV.assign rfl rfl) ?_)
  all_goals (
    refine E.OW.nil ?_
    refine E.then_n ?_
    refine E.CW.ret ?_
    refine E.KR.one [] Try.results62 rfl rfl ?_
    exact ⟨congrArg Value.bool (by first | exact (Rt.on_ge (g := g.q) (p := p) (by assumption)).symm | exact (Rt.on_lt (g := g.q) (p := p) (by omega)).symm), rfl⟩)
end Go.Proofs.Ytflkbabhbnmajaa

/- Rows of rows, and the plan in memory. -/
set_option linter.unusedSimpArgs false
set_option linter.unusedVariables false
namespace Go.Proofs.Ytflkbabhbnmajaa
namespace E
open Go Go.RowKit

/-! ### Cells by a function -/
def bls (m : Nat) (f : Nat → Bool) : List Value := (List.range m).map fun i => .bool (f i)
def iis (m : Nat) (f : Nat → Int) : List Value := (List.range m).map fun i => .int .i64 (f i)
def slc2 (m : Nat) (A : Nat → Option Addr) (len c : Nat → Nat) : List Value := (List.range m).map fun i => .slice (A i) (len i) (c i)
@[simp] theorem bls_length (m : Nat) (f : Nat → Bool) : (bls m f).length = m := by simp [bls]
@[simp] theorem iis_length (m : Nat) (f : Nat → Int) : (iis m f).length = m := by simp [iis]
@[simp] theorem slc2_length (m : Nat) (A : Nat → Option Addr) (len c : Nat → Nat) : (slc2 m A len c).length = m := by simp [slc2]
def up {α : Type} (f : Nat → α) (k : Nat) (v : α) : Nat → α := fun i => if i = k then v else f i
theorem up_same {α : Type} (f : Nat → α) (k : Nat) (v : α) : up f k v k = v := if_pos rfl
theorem up_ne {α : Type} (f : Nat → α) {k i : Nat} (v : α) (h : i ≠ k) : up f k v i = f i := if_neg h
theorem range_set {α : Type} (m : Nat) (f : Nat → α) (g : Nat → Value) (h : α → Value) (k : Nat) (v : α) (hg : ∀ i, g i = h (f i)) :
    ((List.range m).map g).set k (h v) = (List.range m).map fun i => h (up f k v i) := by
  apply List.ext_getElem (by simp)
  intro i h1 h2
  simp only [List.length_set, List.length_map, List.length_range] at h1
  rw [List.getElem_set]
  simp only [List.getElem_map, List.getElem_range]
  by_cases e : k = i
  · subst e; rw [if_pos rfl, up_same]
  · rw [if_neg e, up_ne f v (fun e' => e e'.symm), hg]
theorem bls_set (m : Nat) (f : Nat → Bool) (k : Nat) (v : Bool) : (bls m f).set k (.bool v) = bls m (up f k v) := range_set m f _ .bool k v fun _ => rfl
theorem iis_set (m : Nat) (f : Nat → Int) (k : Nat) (v : Int) : (iis m f).set k (.int .i64 v) = iis m (up f k v) := range_set m f _ (.int .i64) k v fun _ => rfl
theorem bls_rep (m : Nat) : List.replicate m (.bool false) = bls m fun _ => false := by
  apply List.ext_getElem (by simp); intro i h1 h2; simp [bls]
theorem iis_rep (m : Nat) : List.replicate m (.int .i64 0) = iis m fun _ => 0 := by
  apply List.ext_getElem (by simp); intro i h1 h2; simp [iis]
theorem slc2_rep (m : Nat) : List.replicate m (.slice none 0 0) = slc2 m (fun _ => none) (fun _ => 0) fun _ => 0 := by
  apply List.ext_getElem (by simp); intro i h1 h2; simp [slc2]
theorem slc2_set (m : Nat) (A : Nat → Option Addr) (len c : Nat → Nat) (k : Nat) (A' : Option Addr) (l' c' : Nat) :
    (slc2 m A len c).set k (.slice A' l' c') = slc2 m (up A k A') (up len k l') (up c k c') := by
  apply List.ext_getElem (by simp)
  intro i h1 h2
  simp only [List.length_set, slc2_length] at h1
  rw [List.getElem_set]
  simp only [slc2, List.getElem_map, List.getElem_range]
  by_cases e : k = i
  · subst e; simp [up_same]
  · rw [if_neg e, up_ne _ _ (fun e' => e e'.symm), up_ne _ _ (fun e' => e e'.symm), up_ne _ _ (fun e' => e e'.symm)]
theorem slc2_snoc (m : Nat) (A : Nat → Option Addr) (len c : Nat → Nat) (A' : Option Addr) (l' c' : Nat) :
    slc2 m A len c ++ [.slice A' l' c'] = slc2 (m + 1) (up A m A') (up len m l') (up c m c') := by
  unfold slc2
  rw [List.range_succ, List.map_append, List.map_cons, List.map_nil, up_same, up_same, up_same]
  congr 1
  apply List.map_congr_left
  intro i hi
  have := List.mem_range.1 hi
  rw [up_ne _ _ (by omega), up_ne _ _ (by omega), up_ne _ _ (by omega)]
section
variable {P : Program} {n : Fr} {w0 : World} {F : Nat → Prop} {K : Kt} {l : Env} {H : List HP} {o : Oper}

/-! ### Loads, stores, makes -/
theorem PV.load_bl {t : TypeId} {x : Operand} {A : Option Addr} {k m : Nat} {f : Nat → Bool} (hR : ∀ w, HA w0 F H w → Rd w (Old w) A (bls m f)) (ht : Na P t) (ho : o.op = .load t x) (hx : ev l x = some (eptr A k)) (hk : k < m) :
    PV P n w0 F l H o (.bool (f k)) := PV.load_of hR ht ho hx (by simp [bls, hk])
theorem PV.load_ii {t : TypeId} {x : Operand} {A : Option Addr} {k m : Nat} {f : Nat → Int} (hR : ∀ w, HA w0 F H w → Rd w (Old w) A (iis m f)) (ht : Na P t) (ho : o.op = .load t x) (hx : ev l x = some (eptr A k)) (hk : k < m) :
    PV P n w0 F l H o (.int .i64 (f k)) := PV.load_of hR ht ho hx (by simp [iis, hk])
theorem PV.load_s2 {t : TypeId} {x : Operand} {A : Option Addr} {k m : Nat} {B : Nat → Option Addr} {len c : Nat → Nat} (hR : ∀ w, HA w0 F H w → Rd w (Old w) A (slc2 m B len c)) (ht : Na P t) (ho : o.op = .load t x) (hx : ev l x = some (eptr A k)) (hk : k < m) :
    PV P n w0 F l H o (.slice (B k) (len k) (c k)) := PV.load_of hR ht ho hx (by simp [slc2, hk])
theorem OW.store_bl {ops : Array Oper} {rest : List Oper} {t : TypeId} {x y : Operand} {Et i m c j : Nat} {A : Option Addr} {b : Bool} {f : Nat → Bool} {H' : List HP} (hsz : ∀ w, (sizeOf t).run P w = .ok 1 w) (ho : o.op = .store t x y)
    (hg : gd ops l o.guard = some true) (hd : o.dst = none) (hx : ev l x = some (eptr A j)) (hy : ev l y = some (.bool b))
    (hi : sel H i = some (HP.row Et 1 A m c (bls m f), H')) (hj : j < m) (k : OW P n w0 F ops K rest l (HP.row Et 1 A m c (bls m (up f j b)) :: H')) : OW P n w0 F ops K (o :: rest) l H :=
  OW.store_row hsz ho hg hd hx hy rfl rfl hi hj (by rw [bls_set]; exact k)
theorem OW.store_ii {ops : Array Oper} {rest : List Oper} {t : TypeId} {x y : Operand} {Et i m c j : Nat} {A : Option Addr} {b : Int} {f : Nat → Int} {H' : List HP} (hsz : ∀ w, (sizeOf t).run P w = .ok 1 w) (ho : o.op = .store t x y)
    (hg : gd ops l o.guard = some true) (hd : o.dst = none) (hx : ev l x = some (eptr A j)) (hy : ev l y = some (.int .i64 b))
    (hi : sel H i = some (HP.row Et 1 A m c (iis m f), H')) (hj : j < m) (k : OW P n w0 F ops K rest l (HP.row Et 1 A m c (iis m (up f j b)) :: H')) : OW P n w0 F ops K (o :: rest) l H :=
  OW.store_row hsz ho hg hd hx hy rfl rfl hi hj (by rw [iis_set]; exact k)
theorem OW.store_s2 {ops : Array Oper} {rest : List Oper} {t : TypeId} {x y : Operand} {Et i m cc j l' c' : Nat} {A A' : Option Addr} {B : Nat → Option Addr} {len c : Nat → Nat} {H' : List HP} (hsz : ∀ w, (sizeOf t).run P w = .ok 1 w) (ho : o.op = .store t x y)
    (hg : gd ops l o.guard = some true) (hd : o.dst = none) (hx : ev l x = some (eptr A j)) (hy : ev l y = some (.slice A' l' c'))
    (hi : sel H i = some (HP.row Et 1 A m cc (slc2 m B len c), H')) (hj : j < m) (k : OW P n w0 F ops K rest l (HP.row Et 1 A m cc (slc2 m (up B j A') (up len j l') (up c j c')) :: H')) : OW P n w0 F ops K (o :: rest) l H :=
  OW.store_row hsz ho hg hd hx hy rfl rfl hi hj (by rw [slc2_set]; exact k)
theorem OW.make_bl {ops : Array Oper} {rest : List Oper} {d : Nat} {t Et bytes : Nat} {x y : Operand} {kx ky : IntKind} {px : Int} (m : Nat) (hT : P.underlying t = some (.slice Et)) (hI : In P Et (.bool false) 1 bytes)
    (ho : o.op = .makeSlice t x y) (hg : gd ops l o.guard = some true) (hd : o.dst = some d) (hn : Nat.blt d n.sz = true) (hx : ev l x = some (.int kx px)) (hy : ev l y = some (.int ky px)) (hm : px = (m : Int))
    (hmax : m ≤ maxLen) (hb : bytes * m ≤ 281474976710656)
    (k : ∀ A, OW P n w0 F ops K rest ((d, .slice A m m) :: l) (HP.row Et 1 A m m (bls m fun _ => false) :: H)) : OW P n w0 F ops K (o :: rest) l H :=
  OW.make m hT hI rfl ho hg hd hn hx hy hm hmax hb (fun A => by rw [bls_rep]; exact k A)
theorem OW.make_ii {ops : Array Oper} {rest : List Oper} {d : Nat} {t Et bytes : Nat} {x y : Operand} {kx ky : IntKind} {px : Int} (m : Nat) (hT : P.underlying t = some (.slice Et)) (hI : In P Et (.int .i64 0) 1 bytes)
    (ho : o.op = .makeSlice t x y) (hg : gd ops l o.guard = some true) (hd : o.dst = some d) (hn : Nat.blt d n.sz = true) (hx : ev l x = some (.int kx px)) (hy : ev l y = some (.int ky px)) (hm : px = (m : Int))
    (hmax : m ≤ maxLen) (hb : bytes * m ≤ 281474976710656)
    (k : ∀ A, OW P n w0 F ops K rest ((d, .slice A m m) :: l) (HP.row Et 1 A m m (iis m fun _ => 0) :: H)) : OW P n w0 F ops K (o :: rest) l H :=
  OW.make m hT hI rfl ho hg hd hn hx hy hm hmax hb (fun A => by rw [iis_rep]; exact k A)
theorem OW.make_s2 {ops : Array Oper} {rest : List Oper} {d : Nat} {t Et bytes : Nat} {x y : Operand} {kx ky : IntKind} {px : Int} (m : Nat) (hT : P.underlying t = some (.slice Et)) (hI : In P Et (.slice none 0 0) 1 bytes)
    (ho : o.op = .makeSlice t x y) (hg : gd ops l o.guard = some true) (hd : o.dst = some d) (hn : Nat.blt d n.sz = true) (hx : ev l x = some (.int kx px)) (hy : ev l y = some (.int ky px)) (hm : px = (m : Int))
    (hmax : m ≤ maxLen) (hb : bytes * m ≤ 281474976710656)
    (k : ∀ A, OW P n w0 F ops K rest ((d, .slice A m m) :: l) (HP.row Et 1 A m m (slc2 m (fun _ => none) (fun _ => 0) fun _ => 0) :: H)) : OW P n w0 F ops K (o :: rest) l H :=
  OW.make m hT hI rfl ho hg hd hn hx hy hm hmax hb (fun A => by rw [slc2_rep]; exact k A)

/-! ### Rows of rows -/
/-- m slices of the function's own, each with a block of its own. -/
def HP.rows (Et m : Nat) (A : Nat → Option Addr) (len c : Nat → Nat) (xs : Nat → List Value) : HP := HP.bag ((List.range m).map fun k => HP.row Et 1 (A k) (len k) (c k) (xs k))
theorem rows_rd {w : World} {S : Nat → Prop} {Et m : Nat} {A : Nat → Option Addr} {len c : Nat → Nat} {xs : Nat → List Value} (h : (HP.rows Et m A len c xs).sem S w) {k : Nat} (hk : k < m) : Rd w (Old w) (A k) (xs k) := by
  obtain ⟨S', h'⟩ := bagS_mem (p := HP.row Et 1 (A k) (len k) (c k) (xs k)) (List.mem_map.2 ⟨k, List.mem_range.2 hk, rfl⟩) h
  exact rd_row h'
theorem HA.rdrows {w : World} (h : HA w0 F H w) {i Et m : Nat} {A : Nat → Option Addr} {len c : Nat → Nat} {xs : Nat → List Value} {H' : List HP} (hi : E.sel H i = some (HP.rows Et m A len c xs, H')) {k : Nat} (hk : k < m) : Rd w (Old w) (A k) (xs k) := by
  obtain ⟨S, h1, _⟩ := (h.sel hi).chunks
  exact rows_rd h1 hk
theorem rdrs {i Et m k : Nat} {A : Nat → Option Addr} {len c : Nat → Nat} {xs : Nat → List Value} {H' : List HP} (hi : E.sel H i = some (HP.rows Et m A len c xs, H')) (hk : k < m) : ∀ w, HA w0 F H w → Rd w (Old w) (A k) (xs k) := fun _ hw => hw.rdrows hi hk
theorem rows_perm {α : Type} (m k : Nat) (hk : k < m) (f g : Nat → α) (hg : ∀ i, i ≠ k → g i = f i) : ∃ r : List α, ((List.range m).map f).Perm (f k :: r) ∧ ((List.range m).map g).Perm (g k :: r) := by
  have hp := List.perm_cons_erase (List.mem_range.2 hk)
  refine ⟨((List.range m).erase k).map f, by simpa using hp.map f, ?_⟩
  have h2 : ((List.range m).erase k).map g = ((List.range m).erase k).map f := by
    apply List.map_congr_left
    intro i hi
    exact hg i ((List.Nodup.mem_erase_iff (List.nodup_range)).1 hi).1
  rw [← h2]
  simpa using hp.map g
/-- a row out of the rows, and one back. -/
theorem OW.rows_out {ops : Array Oper} {rest : List Oper} {Et m k : Nat} {A A' : Nat → Option Addr} {len len' c c' : Nat → Nat} {xs xs' : Nat → List Value} {H' : List HP} (i : Nat) (hi : E.sel H i = some (HP.rows Et m A len c xs, H')) (hk : k < m)
    (hg : ∀ j, j ≠ k → HP.row Et 1 (A' j) (len' j) (c' j) (xs' j) = HP.row Et 1 (A j) (len j) (c j) (xs j))
    (h : ∀ r : HP, (∀ l1 R (K1 : Kt) (rest1 : List Oper), OW P n w0 F ops K1 rest1 l1 (HP.rows Et m A' len' c' xs' :: R) → OW P n w0 F ops K1 rest1 l1 (HP.row Et 1 (A' k) (len' k) (c' k) (xs' k) :: r :: R)) →
      OW P n w0 F ops K rest l (HP.row Et 1 (A k) (len k) (c k) (xs k) :: r :: H')) : OW P n w0 F ops K rest l H := by
  obtain ⟨r, h1, h2⟩ := rows_perm m k hk (fun k => HP.row Et 1 (A k) (len k) (c k) (xs k)) (fun k => HP.row Et 1 (A' k) (len' k) (c' k) (xs' k)) hg
  intro a w ha hw
  refine h (HP.bag r) (fun l1 R K1 rest1 hc a w ha hw => hc a w ha { hw with chunks := Chunks.bag_perm h2.symm (Chunks.bag_in hw.chunks) }) a w ha ?_
  have hs := hw.sel hi
  exact { hs with chunks := Chunks.bag_out (Chunks.bag_perm h1 hs.chunks) }
/-- a store into a row of numbers. -/
theorem OW.store_rows {ops : Array Oper} {rest : List Oper} {t : TypeId} {x y : Operand} {Et i m N j q : Nat} {A : Nat → Option Addr} {c : Nat → Nat} {D : Nat → Nat → Int} {b : Int} {H' : List HP} (hsz : ∀ w, (sizeOf t).run P w = .ok 1 w) (ho : o.op = .store t x y)
    (hg : gd ops l o.guard = some true) (hd : o.dst = none) (hx : ev l x = some (eptr (A q) j)) (hy : ev l y = some (.int .i64 b))
    (hi : sel H i = some (HP.rows Et m A (fun _ => N) c (fun k => iis N (D k)), H')) (hq : q < m) (hj : j < N) (k : OW P n w0 F ops K rest l (HP.rows Et m A (fun _ => N) c (fun k => iis N (up D q (up (D q) j b) k)) :: H')) : OW P n w0 F ops K (o :: rest) l H := by
  refine OW.rows_out (A' := A) (len' := fun _ => N) (c' := c) (xs' := fun k => iis N (up D q (up (D q) j b) k)) i hi hq (fun s hs => by rw [up_ne _ _ hs]) fun r hback => ?_
  refine OW.store_ii (i := 0) hsz ho hg hd hx hy rfl hj ?_
  refine hback l H' K rest k |> fun h => ?_
  rw [up_same] at h
  exact h
/-- one more row. -/
theorem rows_snoc {Et m : Nat} {A : Nat → Option Addr} {len c : Nat → Nat} {xs : Nat → List Value} {A' : Option Addr} {l' c' : Nat} {ys : List Value} {w : World} {U : Nat → Prop} {R : List HP}
    (h : Chunks w U (HP.row Et 1 A' l' c' ys :: HP.rows Et m A len c xs :: R)) : Chunks w U (HP.rows Et (m + 1) (up A m A') (up len m l') (up c m c') (up xs m ys) :: R) := by
  refine Chunks.bag_perm ?_ (Chunks.bag_in h)
  rw [List.range_succ, List.map_append, List.map_cons, List.map_nil, up_same, up_same, up_same, up_same]
  have : ((List.range m).map fun k => HP.row Et 1 (up A m A' k) (up len m l' k) (up c m c' k) (up xs m ys k)) = (List.range m).map fun k => HP.row Et 1 (A k) (len k) (c k) (xs k) := by
    apply List.map_congr_left
    intro i hi
    have := List.mem_range.1 hi
    rw [up_ne _ _ (by omega), up_ne _ _ (by omega), up_ne _ _ (by omega), up_ne _ _ (by omega)]
  rw [this]
  exact List.perm_append_comm (l₁ := [HP.row Et 1 A' l' c' ys])
theorem CW.rows_snoc {c0 : Code} {Et m : Nat} {A : Nat → Option Addr} {len c : Nat → Nat} {xs : Nat → List Value} {A' : Option Addr} {l' c' : Nat} {ys : List Value} {H1 R : List HP} (is : List Nat) (hs : E.sels H is = some H1) (hH : H1 = HP.row Et 1 A' l' c' ys :: HP.rows Et m A len c xs :: R)
    (k : CW P n w0 F c0 K l (HP.rows Et (m + 1) (up A m A') (up len m l') (up c m c') (up xs m ys) :: R)) : CW P n w0 F c0 K l H :=
  CW.sels is hs (CW.conv (fun w U h => by subst hH; exact E.rows_snoc h) k)
theorem CW.rows_nil {c0 : Code} {Et : Nat} {A : Nat → Option Addr} {len c : Nat → Nat} {xs : Nat → List Value} (k : CW P n w0 F c0 K l (HP.rows Et 0 A len c xs :: H)) : CW P n w0 F c0 K l H := CW.conv (fun w U h => h.bag_nil) k
end
end E
end Go.Proofs.Ytflkbabhbnmajaa

/- A search from a goal backwards, in all phases at once, plainly: no program in sight. -/
namespace Go.Proofs.Ytflkbabhbnmajaa
namespace Bf
structure G where
  n : Nat
  K : Nat
  cell : Nat → Bool
  al : Nat → Nat → Bool
  nr : Nat → List Nat
  goal : Nat
structure G.ok (x : G) : Prop where
  K0 : 0 < x.K
  nrlt : ∀ p q, p < x.n → q ∈ x.nr p → q < x.n
  sym : ∀ p q, p < x.n → q ∈ x.nr p → p ∈ x.nr q
  glt : x.goal < x.n
  gal : ∀ k, k < x.K → x.al k x.goal = true
  alc : ∀ k p, x.al k p = true → x.cell p = true
/-- a walk of m steps from a place at a phase to the goal. -/
def W (x : G) : Nat → Nat → Nat → Prop
  | 0, _, p => p = x.goal
  | m + 1, k, p => ∃ q, q ∈ x.nr p ∧ x.al ((k + 1) % x.K) q = true ∧ W x m ((k + 1) % x.K) q
def bef (x : G) (k : Nat) : Nat := (k + x.K - 1) % x.K
theorem bef_lt {x : G} (h : x.ok) (k : Nat) : bef x k < x.K := Nat.mod_lt _ h.K0
theorem bef_succ {x : G} (h : x.ok) {k : Nat} (hk : k < x.K) : (bef x k + 1) % x.K = k := by
  have := h.K0
  unfold bef
  rcases Nat.eq_zero_or_pos k with rfl | h0
  · rw [show 0 + x.K - 1 = x.K - 1 by omega, Nat.mod_eq_of_lt (show x.K - 1 < x.K by omega), show x.K - 1 + 1 = x.K by omega, Nat.mod_self]
  · rw [show k + x.K - 1 = (k - 1) + x.K by omega, Nat.add_mod_right, Nat.mod_eq_of_lt (show k - 1 < x.K by omega), show k - 1 + 1 = k by omega, Nat.mod_eq_of_lt hk]
theorem succ_bef {x : G} (h : x.ok) {k : Nat} (hk : k < x.K) : bef x ((k + 1) % x.K) = k := by
  have := h.K0
  unfold bef
  rcases Nat.lt_or_ge (k + 1) x.K with h1 | h1
  · rw [Nat.mod_eq_of_lt h1, show k + 1 + x.K - 1 = k + x.K by omega, Nat.add_mod_right, Nat.mod_eq_of_lt hk]
  · have : k + 1 = x.K := by omega
    rw [this, Nat.mod_self, show 0 + x.K - 1 = k by omega, Nat.mod_eq_of_lt hk]
abbrev DD := Nat → Nat → Int
def upd (D : DD) (k p : Nat) (v : Int) : DD := fun k' p' => if k' = k ∧ p' = p then v else D k' p'
def seeD (D : DD) (p k : Nat) (m : Int) : DD := if D k p < 0 then upd D k p m else D
def seeQ (x : G) (D : DD) (q : List (Nat × Nat)) (p k : Nat) : List (Nat × Nat) := if D k p < 0 ∧ x.al k p = true then q ++ [(p, k)] else q
def at_ (q : List (Nat × Nat)) (i : Nat) : Nat × Nat := q.getD i (0, 0)
theorem at_mem {q : List (Nat × Nat)} {i : Nat} (h : i < q.length) : at_ q i ∈ q := by simp [at_, List.getD, h]
theorem at_app {q r : List (Nat × Nat)} {i : Nat} (h : i < q.length) : at_ (q ++ r) i = at_ q i := by simp [at_, List.getD, List.getElem?_append_left h]
theorem at_new {q : List (Nat × Nat)} {s : Nat × Nat} : at_ (q ++ [s]) q.length = s := by simp [at_, List.getD]
/-- the search, when the first h states of the queue have been looked at. -/
structure Base (x : G) (D : DD) (q : List (Nat × Nat)) (h : Nat) : Prop where
  mem : ∀ s, s ∈ q → s.1 < x.n ∧ s.2 < x.K ∧ x.al s.2 s.1 = true ∧ 0 ≤ D s.2 s.1
  nd : q.Nodup
  asg : ∀ k p, k < x.K → p < x.n → D k p = -1 ∨ (0 ≤ D k p ∧ W x (D k p).toNat k p)
  inq : ∀ k p, k < x.K → p < x.n → 0 ≤ D k p → x.al k p = true → (p, k) ∈ q
  so : ∀ i j, i ≤ j → j < q.length → D (at_ q i).2 (at_ q i).1 ≤ D (at_ q j).2 (at_ q j).1
  le : h < q.length → ∀ k p, k < x.K → p < x.n → D k p ≤ D (at_ q h).2 (at_ q h).1 + 1
  ix : ∀ j, j < q.length → D (at_ q j).2 (at_ q j).1 ≤ j
  bd : ∀ k p, k < x.K → p < x.n → D k p ≤ q.length
  pr : ∀ i, i < h → i < q.length → ∀ p, p ∈ x.nr (at_ q i).1 → x.cell p = true → 0 ≤ D (bef x (at_ q i).2) p ∧ D (bef x (at_ q i).2) p ≤ D (at_ q i).2 (at_ q i).1 + 1
theorem len_le {x : G} {D : DD} {q : List (Nat × Nat)} {h : Nat} (b : Base x D q h) : q.length ≤ x.n * x.K := by
  have h1 : q ⊆ (List.range x.n).flatMap fun p => (List.range x.K).map fun k => (p, k) := by
    intro s hs
    obtain ⟨h1, h2, _⟩ := b.mem s hs
    simp only [List.mem_flatMap, List.mem_range, List.mem_map]
    exact ⟨s.1, h1, s.2, h2, rfl⟩
  have h2 := b.nd.length_le_of_subset h1
  have h3 : ((List.range x.n).flatMap fun p => (List.range x.K).map fun k => (p, k)).length = x.n * x.K := by
    simp [List.length_flatMap, List.map_const']
  omega
/-- one look: from the state at h to a neighbour, or at the goal in the beginning (h = 0, D.. = 0). -/
theorem Base.see {x : G} (ok : x.ok) {D : DD} {q : List (Nat × Nat)} {h p k : Nat} {m : Int} (b : Base x D q h) (hk : k < x.K) (hp : p < x.n) (hm : 0 ≤ m) (hw : W x m.toNat k p)
    (hq : ∀ k p, k < x.K → p < x.n → D k p ≤ m) (hi : m ≤ q.length) (hl : h < q.length → m ≤ D (at_ q h).2 (at_ q h).1 + 1) (hh : h ≤ q.length) :
    Base x (seeD D p k m) (seeQ x D q p k) h := by
  unfold seeD seeQ
  by_cases hd : D k p < 0
  · rw [if_pos hd]
    have hold : ∀ k' p', k' < x.K → p' < x.n → 0 ≤ D k' p' → upd D k p m k' p' = D k' p' := by
      intro k' p' _ _ h1
      unfold upd
      rw [if_neg]
      rintro ⟨rfl, rfl⟩
      omega
    have hmem : ∀ s, s ∈ q → upd D k p m s.2 s.1 = D s.2 s.1 := fun s hs => hold _ _ (b.mem s hs).2.1 (b.mem s hs).1 (b.mem s hs).2.2.2
    have hnew : upd D k p m k p = m := by simp [upd]
    have hdm : ∀ k' p', k' < x.K → p' < x.n → upd D k p m k' p' ≤ m := by
      intro k' p' h1 h2
      unfold upd
      split
      · exact Int.le_refl _
      · exact hq k' p' h1 h2
    have has : ∀ k' p', k' < x.K → p' < x.n → upd D k p m k' p' = -1 ∨ (0 ≤ upd D k p m k' p' ∧ W x (upd D k p m k' p').toNat k' p') := by
      intro k' p' h1 h2
      unfold upd
      split
      · rename_i e; obtain ⟨rfl, rfl⟩ := e; exact .inr ⟨hm, hw⟩
      · exact b.asg k' p' h1 h2
    have hnin : (p, k) ∉ q := fun hin => by have := (b.mem _ hin).2.2.2; simp only at this; omega
    have hpr : ∀ i, i < h → i < q.length → ∀ p', p' ∈ x.nr (at_ q i).1 → x.cell p' = true → 0 ≤ upd D k p m (bef x (at_ q i).2) p' ∧ upd D k p m (bef x (at_ q i).2) p' ≤ upd D k p m (at_ q i).2 (at_ q i).1 + 1 := by
      intro i h1 h2 p' h3 h4
      have h5 := b.pr i h1 h2 p' h3 h4
      have h6 := b.mem _ (at_mem h2)
      rw [hold _ _ (bef_lt ok _) (ok.nrlt _ _ h6.1 h3) h5.1, hmem _ (at_mem h2)]
      exact h5
    by_cases ha : x.al k p = true
    · rw [if_pos ⟨hd, ha⟩]
      have hat : ∀ i, i < (q ++ [(p, k)]).length → (i < q.length ∧ at_ (q ++ [(p, k)]) i = at_ q i) ∨ (i = q.length ∧ at_ (q ++ [(p, k)]) i = (p, k)) := by
        intro i h1
        rw [List.length_append, List.length_singleton] at h1
        rcases Nat.lt_or_ge i q.length with h2 | h2
        · exact .inl ⟨h2, at_app h2⟩
        · have : i = q.length := by omega
          subst this
          exact .inr ⟨rfl, at_new⟩
      refine ⟨?_, ?_, has, ?_, ?_, ?_, ?_, ?_, ?_⟩
      · intro s hs
        rcases List.mem_append.1 hs with h1 | h1
        · rw [hmem s h1]; exact b.mem s h1
        · rw [List.mem_singleton.1 h1]; exact ⟨hp, hk, ha, by simp only; rw [hnew]; exact hm⟩
      · exact List.nodup_append.2 ⟨b.nd, by simp, fun s h1 t h2 e => by rw [List.mem_singleton.1 h2] at e; exact hnin (e ▸ h1)⟩
      · intro k' p' h1 h2 h3 h4
        by_cases e : k' = k ∧ p' = p
        · obtain ⟨rfl, rfl⟩ := e; simp
        · have : upd D k p m k' p' = D k' p' := by unfold upd; rw [if_neg e]
          rw [this] at h3
          exact List.mem_append.2 (.inl (b.inq k' p' h1 h2 h3 h4))
      · intro i j hij hj
        rcases hat j hj with ⟨h1, h2⟩ | ⟨h1, h2⟩
        · rw [h2, (at_app (Nat.lt_of_le_of_lt hij h1) : at_ (q ++ [(p, k)]) i = _), hmem _ (at_mem h1), hmem _ (at_mem (Nat.lt_of_le_of_lt hij h1))]
          exact b.so i j hij h1
        · rw [h2]; simp only; rw [hnew]
          rcases hat i (by omega) with ⟨h3, h4⟩ | ⟨h3, h4⟩
          · rw [h4]; have := b.mem _ (at_mem h3); exact hdm _ _ this.2.1 this.1
          · rw [h4]; simp only; rw [hnew]; exact Int.le_refl _
      · intro _ k' p' h1 h2
        have := hdm k' p' h1 h2
        rcases hat h (by simp; omega) with ⟨h3, h4⟩ | ⟨h3, h4⟩
        · rw [h4, hmem _ (at_mem h3)]; have := hl h3; omega
        · rw [h4]; simp only; rw [hnew]; omega
      · intro j hj
        rcases hat j hj with ⟨h1, h2⟩ | ⟨h1, h2⟩
        · rw [h2, hmem _ (at_mem h1)]; exact b.ix j h1
        · rw [h2]; simp only; rw [hnew, h1]; exact hi
      · intro k' p' h1 h2
        have := hdm k' p' h1 h2
        simp only [List.length_append, List.length_singleton]; omega
      · intro i h1 h2 p' h3 h4
        rcases hat i h2 with ⟨h5, h6⟩ | ⟨h5, h6⟩
        · rw [h6] at h3 ⊢; exact hpr i h1 h5 p' h3 h4
        · omega
    · rw [if_neg (fun e => ha e.2)]
      refine ⟨?_, b.nd, has, ?_, ?_, ?_, ?_, ?_, hpr⟩
      · intro s hs; rw [hmem s hs]; exact b.mem s hs
      · intro k' p' h1 h2 h3 h4
        by_cases e : k' = k ∧ p' = p
        · obtain ⟨rfl, rfl⟩ := e; exact absurd h4 ha
        · have : upd D k p m k' p' = D k' p' := by unfold upd; rw [if_neg e]
          rw [this] at h3
          exact b.inq k' p' h1 h2 h3 h4
      · intro i j hij hj
        rw [hmem _ (at_mem hj), hmem _ (at_mem (Nat.lt_of_le_of_lt hij hj))]
        exact b.so i j hij hj
      · intro h1 k' p' h2 h3
        have := hdm k' p' h2 h3
        rw [hmem _ (at_mem h1)]; have := hl h1; omega
      · intro j hj; rw [hmem _ (at_mem hj)]; exact b.ix j hj
      · intro k' p' h1 h2
        have := hdm k' p' h1 h2
        omega
  · rw [if_neg hd, if_neg (fun e => hd e.1)]
    exact b
theorem see_no {x : G} {D : DD} {q : List (Nat × Nat)} {p k : Nat} {m : Int} (h : ¬ D k p < 0) : seeQ x D q p k = q ∧ seeD D p k m = D := ⟨if_neg fun e => h e.1, if_neg h⟩
theorem see_off {x : G} {D : DD} {q : List (Nat × Nat)} {p k : Nat} {m : Int} (h : D k p < 0) (ha : x.al k p = false) : seeQ x D q p k = q ∧ seeD D p k m = upd D k p m := ⟨if_neg fun e => by rw [ha] at e; exact absurd e.2 (by decide), if_pos h⟩
theorem see_on {x : G} {D : DD} {q : List (Nat × Nat)} {p k : Nat} {m : Int} (h : D k p < 0) (ha : x.al k p = true) : seeQ x D q p k = q ++ [(p, k)] ∧ seeD D p k m = upd D k p m := ⟨if_pos ⟨h, ha⟩, if_pos h⟩
theorem bef_int {x : G} (h : x.ok) (k : Nat) : ((k : Int) + (x.K : Int) - 1) % (x.K : Int) = ((bef x k : Nat) : Int) := by
  have := h.K0
  unfold bef
  rw [Int.natCast_emod]
  congr 1
  omega
theorem seeD_keep {D : DD} {p k k' p' : Nat} {m : Int} (h : 0 ≤ D k' p') : seeD D p k m k' p' = D k' p' := by
  unfold seeD
  split
  · unfold upd
    rw [if_neg]
    rintro ⟨rfl, rfl⟩
    omega
  · rfl
theorem seeD_new {D : DD} {p k : Nat} {m : Int} (hm : 0 ≤ m) : 0 ≤ seeD D p k m k p ∧ (seeD D p k m k p = m ∨ seeD D p k m k p = D k p) := by
  unfold seeD
  split
  · have : upd D k p m k p = m := by simp [upd]
    rw [this]; exact ⟨hm, .inl rfl⟩
  · exact ⟨by omega, .inr rfl⟩
theorem seeQ_le {x : G} {D : DD} {q : List (Nat × Nat)} {p k : Nat} : q.length ≤ (seeQ x D q p k).length := by
  unfold seeQ; split
  · rw [List.length_append]; omega
  · exact Nat.le_refl _
theorem seeQ_at {x : G} {D : DD} {q : List (Nat × Nat)} {p k i : Nat} (h : i < q.length) : at_ (seeQ x D q p k) i = at_ q i := by
  unfold seeQ; split
  · exact at_app h
  · rfl
/-- the state at h is looked at, up to its j-th neighbour. -/
structure Part (x : G) (D : DD) (q : List (Nat × Nat)) (h j : Nat) : Prop where
  b : Base x D q h
  hl : h < q.length
  g : ∀ k, k < x.K → D k x.goal = 0
  nb : ∀ i, i < j → i < (x.nr (at_ q h).1).length → x.cell ((x.nr (at_ q h).1).getD i 0) = true →
    0 ≤ D (bef x (at_ q h).2) ((x.nr (at_ q h).1).getD i 0) ∧ D (bef x (at_ q h).2) ((x.nr (at_ q h).1).getD i 0) ≤ D (at_ q h).2 (at_ q h).1 + 1
theorem Part.skip {x : G} {D : DD} {q : List (Nat × Nat)} {h j : Nat} (a : Part x D q h j) (hc : x.cell ((x.nr (at_ q h).1).getD j 0) = false) : Part x D q h (j + 1) :=
  ⟨a.b, a.hl, a.g, fun i h1 h2 h3 => by
    rcases Nat.lt_or_ge i j with h4 | h4
    · exact a.nb i h4 h2 h3
    · have : i = j := by omega
      subst this
      rw [hc] at h3; exact absurd h3 (by decide)⟩
theorem Part.see {x : G} (ok : x.ok) {D : DD} {q : List (Nat × Nat)} {h j : Nat} (a : Part x D q h j) (hj : j < (x.nr (at_ q h).1).length) (hc : x.cell ((x.nr (at_ q h).1).getD j 0) = true) :
    Part x (seeD D ((x.nr (at_ q h).1).getD j 0) (bef x (at_ q h).2) (D (at_ q h).2 (at_ q h).1 + 1)) (seeQ x D q ((x.nr (at_ q h).1).getD j 0) (bef x (at_ q h).2)) h (j + 1) := by
  obtain ⟨m1, m2, m3, m4⟩ := a.b.mem _ (at_mem a.hl)
  have hp : (x.nr (at_ q h).1).getD j 0 ∈ x.nr (at_ q h).1 := by simp [List.getD, hj]
  have hn := ok.nrlt _ _ m1 hp
  have hb := bef_lt ok (at_ q h).2
  have hle := a.b.le a.hl
  have hix := a.b.ix h a.hl
  have hw : W x (D (at_ q h).2 (at_ q h).1 + 1).toNat (bef x (at_ q h).2) ((x.nr (at_ q h).1).getD j 0) := by
    rw [show (D (at_ q h).2 (at_ q h).1 + 1).toNat = (D (at_ q h).2 (at_ q h).1).toNat + 1 by omega]
    refine ⟨(at_ q h).1, ok.sym _ _ m1 hp, ?_, ?_⟩
    · rw [bef_succ ok m2]; exact m3
    · rw [bef_succ ok m2]
      rcases a.b.asg _ _ m2 m1 with h1 | ⟨_, h1⟩
      · omega
      · exact h1
  have hbase := a.b.see ok (p := (x.nr (at_ q h).1).getD j 0) (k := bef x (at_ q h).2) (m := D (at_ q h).2 (at_ q h).1 + 1) hb hn (by omega) hw hle (by have := a.hl; omega) (fun _ => Int.le_refl _) (by have := a.hl; omega)
  refine ⟨hbase, Nat.lt_of_lt_of_le a.hl seeQ_le, fun k hk => ?_, fun i h1 h2 h3 => ?_⟩
  · rw [seeD_keep (by rw [a.g k hk]; omega)]; exact a.g k hk
  · rw [seeQ_at a.hl] at h2 h3 ⊢
    rw [seeD_keep m4]
    rcases Nat.lt_or_ge i j with h4 | h4
    · have h5 := a.nb i h4 h2 h3
      rw [seeD_keep h5.1]; exact h5
    · have : i = j := by omega
      subst this
      have h5 := seeD_new (D := D) (p := (x.nr (at_ q h).1).getD i 0) (k := bef x (at_ q h).2) (m := D (at_ q h).2 (at_ q h).1 + 1) (by omega)
      refine ⟨h5.1, ?_⟩
      rcases h5.2 with h6 | h6
      · omega
      · rw [h6]; exact hle _ _ hb hn
/-- a state has been looked at. -/
theorem Base.next {x : G} {D : DD} {q : List (Nat × Nat)} {h : Nat} (b : Base x D q h) (hh : h < q.length)
    (hp : ∀ p, p ∈ x.nr (at_ q h).1 → x.cell p = true → 0 ≤ D (bef x (at_ q h).2) p ∧ D (bef x (at_ q h).2) p ≤ D (at_ q h).2 (at_ q h).1 + 1) : Base x D q (h + 1) := by
  refine { b with le := fun h1 k p h2 h3 => ?_, pr := fun i h1 h2 p h3 h4 => ?_ }
  · have h4 := b.le hh k p h2 h3
    have h5 := b.so h (h + 1) (by omega) h1
    omega
  · rcases Nat.lt_or_ge i h with h5 | h5
    · exact b.pr i h5 h2 p h3 h4
    · have : i = h := by omega
      subst this
      exact hp p h3 h4
theorem Part.done {x : G} {D : DD} {q : List (Nat × Nat)} {h j : Nat} (a : Part x D q h j) (hj : (x.nr (at_ q h).1).length ≤ j) : Base x D q (h + 1) :=
  a.b.next a.hl fun p h1 h2 => by
    obtain ⟨i, hi, rfl⟩ := List.getElem_of_mem h1
    have h3 := a.nb i (by omega) hi (by simpa [List.getD, hi] using h2)
    simpa [List.getD, hi] using h3
/-- the beginning: the goal, in the first j phases. -/
structure Start (x : G) (D : DD) (q : List (Nat × Nat)) (j : Nat) : Prop where
  b : Base x D q 0
  g : ∀ k, k < j → D k x.goal = 0
  o : ∀ k p, D k p = -1 ∨ D k p = 0
  u : ∀ k p, j ≤ k → D k p = -1
theorem Start.zero (x : G) {D : DD} (h : ∀ k p, D k p = -1) : Start x D [] 0 :=
  ⟨⟨(fun s hs => absurd hs (by simp)), List.nodup_nil, fun k p _ _ => .inl (h k p), fun k p _ _ h1 _ => by rw [h k p] at h1; omega, fun i j _ hj => by simp at hj, fun h => by simp at h, fun j hj => by simp at hj, fun k p _ _ => by rw [h k p]; simp, fun i h => by omega⟩,
    fun k h => by omega, fun k p => .inl (h k p), fun k p _ => h k p⟩
theorem Start.see {x : G} (ok : x.ok) {D : DD} {q : List (Nat × Nat)} {j : Nat} (a : Start x D q j) (hj : j < x.K) : Start x (seeD D x.goal j 0) (seeQ x D q x.goal j) (j + 1) := by
  have hd := a.u j x.goal (Nat.le_refl _)
  have hnn : ∀ k p, D k p ≤ 0 := fun k p => by rcases a.o k p with h | h <;> omega
  have hu : seeD D x.goal j 0 = upd D j x.goal 0 := if_pos (by omega)
  refine ⟨a.b.see ok hj ok.glt (Int.le_refl _) rfl (fun k p _ _ => hnn k p) (by omega) (fun h => ?_) (by omega), fun k hk => ?_, fun k p => ?_, fun k p hk => ?_⟩
  · have := (a.b.mem _ (at_mem h)).2.2.2
    omega
  · rw [hu]
    rcases Nat.lt_or_ge k j with h1 | h1
    · unfold upd; rw [if_neg (by omega)]; exact a.g k h1
    · have : k = j := by omega
      subst this
      simp [upd]
  · rw [hu]; unfold upd
    split
    · exact .inr rfl
    · exact a.o k p
  · rw [hu]; unfold upd
    rw [if_neg (by omega)]
    exact a.u k p (by omega)
theorem Base.part {x : G} {D : DD} {q : List (Nat × Nat)} {h : Nat} (b : Base x D q h) (hl : h < q.length) (hg : ∀ k, k < x.K → D k x.goal = 0) : Part x D q h 0 := ⟨b, hl, hg, fun i hi => by omega⟩
/-- at the end: what is assigned is the length of a shortest walk. -/
theorem Base.min {x : G} (ok : x.ok) {D : DD} {q : List (Nat × Nat)} (b : Base x D q q.length) (hg : ∀ k, k < x.K → D k x.goal = 0) :
    ∀ m k p, k < x.K → p < x.n → x.cell p = true → W x m k p → 0 ≤ D k p ∧ D k p ≤ m := by
  intro m
  induction m with
  | zero =>
    intro k p hk hp hc hw
    have : p = x.goal := hw
    subst this
    rw [hg k hk]; omega
  | succ m ih =>
    intro k p hk hp hc ⟨q', h1, h2, h3⟩
    have hq' := ok.nrlt p q' hp h1
    have hk' : (k + 1) % x.K < x.K := Nat.mod_lt _ ok.K0
    obtain ⟨h4, h5⟩ := ih _ q' hk' hq' (ok.alc _ _ h2) h3
    have h6 := b.inq _ _ hk' hq' h4 h2
    obtain ⟨i, hi, he⟩ := List.getElem_of_mem h6
    have hat : at_ q i = (q', (k + 1) % x.K) := by simp [at_, List.getD, hi, he]
    have h7 := b.pr i hi hi p (by rw [hat]; exact ok.sym p q' hp h1) hc
    rw [hat] at h7
    simp only [succ_bef ok hk] at h7
    omega
/-- the length of a shortest walk, -1 if there is none of up to this length. -/
def Ar (x : G) (k p : Nat) (v : Int) : Prop := (v = -1 ∧ ∀ m, ¬ W x m k p) ∨ (0 ≤ v ∧ v ≤ x.n * x.K ∧ W x v.toNat k p ∧ ∀ m, W x m k p → v ≤ m)
theorem Base.ar {x : G} (ok : x.ok) {D : DD} {q : List (Nat × Nat)} (b : Base x D q q.length) (hg : ∀ k, k < x.K → D k x.goal = 0) {k p : Nat} (hk : k < x.K) (hp : p < x.n) (hc : x.cell p = true) : Ar x k p (D k p) := by
  rcases b.asg k p hk hp with h | ⟨h1, h2⟩
  · refine .inl ⟨h, fun m hw => ?_⟩
    have := b.min ok hg m k p hk hp hc hw
    omega
  · refine .inr ⟨h1, ?_, h2, fun m hw => (b.min ok hg m k p hk hp hc hw).2⟩
    have h3 := b.bd k p hk hp
    have h4 := len_le b
    have h5 : (x.n : Int) * x.K = ((x.n * x.K : Nat) : Int) := by simp
    rw [h5]
    omega
theorem Ar.uniq {x : G} {k p : Nat} {v u : Int} (h : Ar x k p v) (h' : Ar x k p u) : v = u := by
  rcases h with ⟨rfl, h⟩ | ⟨h1, _, h2, h3⟩ <;> rcases h' with ⟨rfl, h'⟩ | ⟨h1', _, h2', h3'⟩
  · rfl
  · exact absurd h2' (h _)
  · exact absurd h2 (h' _)
  · have a := h3 _ h2'
    have b := h3' _ h2
    omega
end Bf
end Go.Proofs.Ytflkbabhbnmajaa

/- The plan of a leg in memory, and the queue of its search. -/
set_option linter.unusedSimpArgs false
set_option linter.unusedVariables false
namespace Go.Proofs.Ytflkbabhbnmajaa
namespace E
open Go Go.RowKit
/-! ### What a chunk's own blocks read as -/
theorem Rd.mono {w : World} {S G : Nat → Prop} {A : Option Addr} {xs : List Value} (h : Rd w S A xs) (hg : ∀ k, S k → G k) : Rd w G A xs := fun hx => by
  obtain ⟨ad, h1, h2, h3⟩ := h hx; exact ⟨ad, h1, hg _ h2, h3⟩
theorem row_rdS {w : World} {S : Nat → Prop} {Et sz m c : Nat} {A : Option Addr} {xs : List Value} (h : (HP.row Et sz A m c xs).sem S w) : Rd w S A xs := by
  intro hx
  obtain ⟨hS, h⟩ := h
  rcases h.2 with ⟨hv, hm⟩ | ⟨g, cap, cur, hv, _, hg, _, _, hsz, ht⟩
  · have h1 := h.1
    subst hm
    simp only [Nat.zero_mul] at h1
    omega
  · injection hv with h1 h2 h3
    subst h1
    refine ⟨_, rfl, (hS g).2 rfl, fun j u hu => ?_⟩
    have hadd : (⟨g, 0, none⟩ : Addr).add j = ⟨g, j, none⟩ := by unfold Addr.add; split <;> simp_all
    rw [hadd, cell_of_row w g j cur Et (0, 0) hg]
    rw [← ht, List.getElem?_take] at hu
    split at hu
    · simpa using hu
    · cases hu
theorem blk_rdS {w : World} {S : Nat → Prop} {B T : Nat} {cs : List Value} (h : (HP.blk B T cs).sem S w) : Rd w S (some ⟨B, 0, none⟩) cs := fun hx => by
  refine ⟨_, rfl, (h.1 B).2 rfl, fun j u hu => ?_⟩
  have hadd : (⟨B, 0, none⟩ : Addr).add j = ⟨B, j, none⟩ := by unfold Addr.add; split <;> simp_all
  rw [hadd, cell_of_row w B j _ T (0, 0) h.2]
  simpa using hu
theorem bag_memS {w : World} {ps : List HP} {p : HP} (hp : p ∈ ps) : ∀ {S : Nat → Prop}, bagS w S ps → ∃ S' : Nat → Prop, (∀ k, S' k → S k) ∧ p.sem S' w := by
  induction ps with
  | nil => cases hp
  | cons q r ih =>
    intro S ⟨S1, S2, h1, _, h3, h4⟩
    rcases List.mem_cons.1 hp with rfl | h
    · exact ⟨S1, fun k hk => (h1 k).2 (.inl hk), h3⟩
    · obtain ⟨S', h5, h6⟩ := ih h h4
      exact ⟨S', fun k hk => (h1 k).2 (.inr (h5 k hk)), h6⟩
theorem bag_row {w : World} {ps : List HP} {S : Nat → Prop} {Et sz m c : Nat} {A : Option Addr} {xs : List Value} (h : (HP.bag ps).sem S w) (hp : HP.row Et sz A m c xs ∈ ps) : Rd w S A xs := by
  obtain ⟨S', h1, h2⟩ := bag_memS hp h; exact (row_rdS h2).mono h1
theorem bag_blk {w : World} {ps : List HP} {S : Nat → Prop} {B T : Nat} {cs : List Value} (h : (HP.bag ps).sem S w) (hp : HP.blk B T cs ∈ ps) : Rd w S (some ⟨B, 0, none⟩) cs := by
  obtain ⟨S', h1, h2⟩ := bag_memS hp h; exact (blk_rdS h2).mono h1
theorem rows_rdS {w : World} {S : Nat → Prop} {Et m : Nat} {A : Nat → Option Addr} {len c : Nat → Nat} {xs : Nat → List Value} (h : (HP.rows Et m A len c xs).sem S w) {k : Nat} (hk : k < m) : Rd w S (A k) (xs k) :=
  bag_row (Et := Et) (sz := 1) (m := len k) (c := c k) h (List.mem_map.2 ⟨k, List.mem_range.2 hk, rfl⟩)
theorem bag_rows {w : World} {ps : List HP} {S : Nat → Prop} {Et m : Nat} {A : Nat → Option Addr} {len c : Nat → Nat} {xs : Nat → List Value} (h : (HP.bag ps).sem S w) (hp : HP.rows Et m A len c xs ∈ ps) {k : Nat} (hk : k < m) : Rd w S (A k) (xs k) := by
  obtain ⟨S', h1, h2⟩ := bag_memS hp h; exact (rows_rdS h2 hk).mono h1
theorem Chunks.at_ {w : World} {i : Nat} {H H' : List HP} {p : HP} {U : Nat → Prop} (hc : Chunks w U H) (hi : sel H i = some (p, H')) : ∃ S : Nat → Prop, p.sem S w ∧ ∀ k, S k → k < w.heap.size ∧ ¬ U k := by
  obtain ⟨S, h1, h2, _⟩ := hc.perm (sel_perm hi)
  exact ⟨S, h1, h2⟩
theorem HA.at_ {w0 w : World} {F : Nat → Prop} {i : Nat} {H H' : List HP} {p : HP} (h : HA w0 F H w) (hi : E.sel H i = some (p, H')) : ∃ S : Nat → Prop, p.sem S w ∧ ∀ k, S k → k < w.heap.size ∧ ¬ F k := h.chunks.at_ hi

/-! ### The plan -/
structure Pl where
  B : Nat
  x : Bf.G
  Ac : Option Addr
  cc : Nat
  Aa : Option Addr
  ca : Nat
  Xa : Nat → Option Addr
  ua : Nat → Nat
  Ad : Option Addr
  cd : Nat
  Xd : Nat → Option Addr
  ud : Nat → Nat
  An : Option Addr
  cn : Nat
  Xn : Nat → Option Addr
  un : Nat → Nat
def nn (x : Bf.G) (p : Nat) : List Int := (x.nr p).map fun (q : Nat) => (q : Int)
@[simp] theorem nn_length (x : Bf.G) (p : Nat) : (nn x p).length = (x.nr p).length := by simp [nn]
theorem nn_get (x : Bf.G) (p : Nat) (j : Nat) : (nn x p).getD j 0 = (((x.nr p).getD j 0 : Nat) : Int) := by
  unfold nn
  rw [List.getD_eq_getElem?_getD, List.getD_eq_getElem?_getD, List.getElem?_map]
  cases (x.nr p)[j]? <;> rfl
def Pl.cells (y : Pl) : List Value := [.int .i64 (y.x.K : Int), .slice y.Ac y.x.n y.cc, .slice y.Aa y.x.K y.ca, .slice y.Ad y.x.K y.cd, .slice y.An y.x.n y.cn]
def Pl.v (y : Pl) : Value := .pointer (some ⟨y.B, 0, none⟩)
structure Pl.rd0 (w : World) (G : Nat → Prop) (y : Pl) : Prop where
  b : Rd w G (some ⟨y.B, 0, none⟩) y.cells
  c : Rd w G y.Ac (bls y.x.n y.x.cell)
  a : Rd w G y.Aa (slc2 y.x.K y.Xa (fun _ => y.x.n) y.ua)
  ar : ∀ k, k < y.x.K → Rd w G (y.Xa k) (bls y.x.n (y.x.al k))
  d : Rd w G y.Ad (slc2 y.x.K y.Xd (fun _ => y.x.n) y.ud)
  n : Rd w G y.An (slc2 y.x.n y.Xn (fun p => (y.x.nr p).length) y.un)
  nr : ∀ p, p < y.x.n → Rd w G (y.Xn p) (ints (nn y.x p))
def Pl.rdd (w : World) (G : Nat → Prop) (y : Pl) (D : Nat → Nat → Int) : Prop := ∀ k, k < y.x.K → Rd w G (y.Xd k) (iis y.x.n (D k))
def HP.dist (y : Pl) (D : Nat → Nat → Int) : HP := HP.rows 3 y.x.K y.Xd (fun _ => y.x.n) y.ud (fun k => iis y.x.n (D k))
def HP.pl0 (y : Pl) : HP := HP.bag [HP.blk y.B 93 y.cells, HP.row 4 1 y.Ac y.x.n y.cc (bls y.x.n y.x.cell), HP.row 89 1 y.Aa y.x.K y.ca (slc2 y.x.K y.Xa (fun _ => y.x.n) y.ua), HP.rows 4 y.x.K y.Xa (fun _ => y.x.n) y.ua (fun k => bls y.x.n (y.x.al k)),
  HP.row 31 1 y.Ad y.x.K y.cd (slc2 y.x.K y.Xd (fun _ => y.x.n) y.ud), HP.row 31 1 y.An y.x.n y.cn (slc2 y.x.n y.Xn (fun p => (y.x.nr p).length) y.un), HP.rows 3 y.x.n y.Xn (fun p => (y.x.nr p).length) y.un (fun p => ints (nn y.x p))]
def HP.plan (y : Pl) (D : Nat → Nat → Int) : HP := HP.bag [HP.pl0 y, HP.dist y D]
theorem Pl.rd0.mono {w : World} {S G : Nat → Prop} {y : Pl} (h : y.rd0 w S) (hg : ∀ k, S k → G k) : y.rd0 w G :=
  ⟨h.b.mono hg, h.c.mono hg, h.a.mono hg, fun k hk => (h.ar k hk).mono hg, h.d.mono hg, h.n.mono hg, fun k hk => (h.nr k hk).mono hg⟩
theorem Pl.rdd.mono {w : World} {S G : Nat → Prop} {y : Pl} {D : Nat → Nat → Int} (h : y.rdd w S D) (hg : ∀ k, S k → G k) : y.rdd w G D := fun k hk => (h k hk).mono hg
theorem pl0_rdS {w : World} {S : Nat → Prop} {y : Pl} (h : (HP.pl0 y).sem S w) : y.rd0 w S where
  b := bag_blk (T := 93) h (by simp)
  c := bag_row (Et := 4) (sz := 1) (m := y.x.n) (c := y.cc) h (by simp)
  a := bag_row (Et := 89) (sz := 1) (m := y.x.K) (c := y.ca) h (by simp)
  ar := fun k hk => bag_rows (Et := 4) (len := fun _ => y.x.n) (c := y.ua) (xs := fun k => bls y.x.n (y.x.al k)) h (by simp) hk
  d := bag_row (Et := 31) (sz := 1) (m := y.x.K) (c := y.cd) h (by simp)
  n := bag_row (Et := 31) (sz := 1) (m := y.x.n) (c := y.cn) h (by simp)
  nr := fun p hp => bag_rows (Et := 3) (len := fun p => (y.x.nr p).length) (c := y.un) (xs := fun p => ints (nn y.x p)) h (by simp) hp
theorem dist_rdS {w : World} {S : Nat → Prop} {y : Pl} {D : Nat → Nat → Int} (h : (HP.dist y D).sem S w) : y.rdd w S D := fun k hk => rows_rdS (xs := fun k => iis y.x.n (D k)) h hk
theorem plan_rdS {w : World} {S : Nat → Prop} {y : Pl} {D : Nat → Nat → Int} (h : (HP.plan y D).sem S w) : y.rd0 w S ∧ y.rdd w S D := by
  obtain ⟨S1, h1, h2⟩ := bag_memS (p := HP.pl0 y) (by simp) h
  obtain ⟨S2, h3, h4⟩ := bag_memS (p := HP.dist y D) (by simp) h
  exact ⟨(pl0_rdS h2).mono h1, (dist_rdS h4).mono h3⟩

section
variable {P : Program} {n : Fr} {w0 : World} {F : Nat → Prop} {K : Kt} {l : Env} {H : List HP} {o : Oper}
theorem HA.rd0 {w : World} (h : HA w0 F H w) {y : Pl} (hr : y.rd0 w0 F) : y.rd0 w (Old w) :=
  ⟨h.rd hr.b, h.rd hr.c, h.rd hr.a, fun k hk => h.rd (hr.ar k hk), h.rd hr.d, h.rd hr.n, fun k hk => h.rd (hr.nr k hk)⟩
theorem HA.rd0M {w : World} (h : HA w0 F H w) {y : Pl} (hr : y.rd0 w0 F) {S : Nat → Prop} (hb : ∀ k, S k → k < w.heap.size ∧ ¬ F k) : y.rd0 w (Fm w S) :=
  ⟨h.rdM hr.b hb, h.rdM hr.c hb, h.rdM hr.a hb, fun k hk => h.rdM (hr.ar k hk) hb, h.rdM hr.d hb, h.rdM hr.n hb, fun k hk => h.rdM (hr.nr k hk) hb⟩
theorem HA.rdd {w : World} (h : HA w0 F H w) {y : Pl} {D : Nat → Nat → Int} (hr : y.rdd w0 F D) : y.rdd w (Old w) D := fun k hk => h.rd (hr k hk)
/-! sources: from what the caller gave, from a chunk. -/
theorem sr0 {y : Pl} (hr : y.rd0 w0 F) : ∀ w, HA w0 F H w → y.rd0 w (Old w) := fun w hw => hw.rd0 hr
theorem srd {y : Pl} {D : Nat → Nat → Int} (hr : y.rdd w0 F D) : ∀ w, HA w0 F H w → y.rdd w (Old w) D := fun w hw => hw.rdd hr
theorem srdc {y : Pl} {D : Nat → Nat → Int} {i : Nat} {H' : List HP} (hi : sel H i = some (HP.dist y D, H')) : ∀ w, HA w0 F H w → y.rdd w (Old w) D := fun w hw => by
  obtain ⟨S, h1, h2⟩ := hw.at_ hi; exact (dist_rdS h1).mono fun k hk => (h2 k hk).1
theorem sr0p {y : Pl} {D : Nat → Nat → Int} {i : Nat} {H' : List HP} (hi : sel H i = some (HP.plan y D, H')) : ∀ w, HA w0 F H w → y.rd0 w (Old w) := fun w hw => by
  obtain ⟨S, h1, h2⟩ := hw.at_ hi; exact (plan_rdS h1).1.mono fun k hk => (h2 k hk).1
theorem srdp {y : Pl} {D : Nat → Nat → Int} {i : Nat} {H' : List HP} (hi : sel H i = some (HP.plan y D, H')) : ∀ w, HA w0 F H w → y.rdd w (Old w) D := fun w hw => by
  obtain ⟨S, h1, h2⟩ := hw.at_ hi; exact (plan_rdS h1).2.mono fun k hk => (h2 k hk).1
section
variable {y : Pl} {D : Nat → Nat → Int}
theorem p_b (h : ∀ w, HA w0 F H w → y.rd0 w (Old w)) : ∀ w, HA w0 F H w → Rd w (Old w) (some ⟨y.B, 0, none⟩) y.cells := fun w hw => (h w hw).b
theorem p_c (h : ∀ w, HA w0 F H w → y.rd0 w (Old w)) : ∀ w, HA w0 F H w → Rd w (Old w) y.Ac (bls y.x.n y.x.cell) := fun w hw => (h w hw).c
theorem p_a (h : ∀ w, HA w0 F H w → y.rd0 w (Old w)) : ∀ w, HA w0 F H w → Rd w (Old w) y.Aa (slc2 y.x.K y.Xa (fun _ => y.x.n) y.ua) := fun w hw => (h w hw).a
theorem p_ar (h : ∀ w, HA w0 F H w → y.rd0 w (Old w)) {k : Nat} (hk : k < y.x.K) : ∀ w, HA w0 F H w → Rd w (Old w) (y.Xa k) (bls y.x.n (y.x.al k)) := fun w hw => (h w hw).ar k hk
theorem p_d (h : ∀ w, HA w0 F H w → y.rd0 w (Old w)) : ∀ w, HA w0 F H w → Rd w (Old w) y.Ad (slc2 y.x.K y.Xd (fun _ => y.x.n) y.ud) := fun w hw => (h w hw).d
theorem p_n (h : ∀ w, HA w0 F H w → y.rd0 w (Old w)) : ∀ w, HA w0 F H w → Rd w (Old w) y.An (slc2 y.x.n y.Xn (fun p => (y.x.nr p).length) y.un) := fun w hw => (h w hw).n
theorem p_nr (h : ∀ w, HA w0 F H w → y.rd0 w (Old w)) {p : Nat} (hp : p < y.x.n) : ∀ w, HA w0 F H w → Rd w (Old w) (y.Xn p) (ints (nn y.x p)) := fun w hw => (h w hw).nr p hp
theorem p_dr (h : ∀ w, HA w0 F H w → y.rdd w (Old w) D) {k : Nat} (hk : k < y.x.K) : ∀ w, HA w0 F H w → Rd w (Old w) (y.Xd k) (iis y.x.n (D k)) := fun w hw => h w hw k hk
end
/-- a cell of a block that can be read. -/
theorem PV.load_at {t : TypeId} {x : Operand} {B j : Nat} {v : Value} {cs : List Value} (hR : ∀ w, HA w0 F H w → Rd w (Old w) (some ⟨B, 0, none⟩) cs) (ht : Na P t) (ho : o.op = .load t x) (hx : ev l x = some (.pointer (some ⟨B, j, none⟩)))
    (hv : cs[j]? = some v) : PV P n w0 F l H o v := by
  refine PV.load_of (A := some ⟨B, 0, none⟩) (k := j) hR ht ho ?_ hv
  rw [hx]
  unfold eptr
  simp only [Option.map_some]
  congr 3
  unfold Addr.add; split <;> simp_all
theorem PV.load_sc {t : TypeId} {x : Operand} {A : Option Addr} {k m N : Nat} {B : Nat → Option Addr} {c : Nat → Nat} (hR : ∀ w, HA w0 F H w → Rd w (Old w) A (slc2 m B (fun _ => N) c)) (ht : Na P t) (ho : o.op = .load t x) (hx : ev l x = some (eptr A k)) (hk : k < m) :
    PV P n w0 F l H o (.slice (B k) N (c k)) := PV.load_s2 hR ht ho hx hk
theorem PV.load_sn {t : TypeId} {x : Operand} {A : Option Addr} {k m : Nat} {g : Bf.G} {B : Nat → Option Addr} {c : Nat → Nat} (hR : ∀ w, HA w0 F H w → Rd w (Old w) A (slc2 m B (fun p => (g.nr p).length) c)) (ht : Na P t) (ho : o.op = .load t x) (hx : ev l x = some (eptr A k)) (hk : k < m) :
    PV P n w0 F l H o (.slice (B k) (g.nr k).length (c k)) := PV.load_s2 hR ht ho hx hk
theorem PV.load_nn {t : TypeId} {x : Operand} {A : Option Addr} {j p : Nat} {g : Bf.G} (hR : ∀ w, HA w0 F H w → Rd w (Old w) A (ints (nn g p))) (ht : Na P t) (ho : o.op = .load t x) (hx : ev l x = some (eptr A j)) (hj : j < (g.nr p).length) :
    PV P n w0 F l H o (.int .i64 (((g.nr p).getD j 0 : Nat) : Int)) := by
  have h := PV.load_int (P := P) (n := n) hR ht ho hx (by simpa using hj)
  rwa [nn_get] at h

/-! ### The queue -/
def qI (q : List (Nat × Nat)) : List (Int × Int) := q.map fun s => ((s.1 : Int), (s.2 : Int))
@[simp] theorem qI_length (q : List (Nat × Nat)) : (qI q).length = q.length := by simp [qI]
theorem qI_get (q : List (Nat × Nat)) (j : Nat) : (qI q).getD j (0, 0) = (((Bf.at_ q j).1 : Int), ((Bf.at_ q j).2 : Int)) := by
  unfold qI Bf.at_
  rw [List.getD_eq_getElem?_getD, List.getD_eq_getElem?_getD, List.getElem?_map]
  cases q[j]? <;> rfl
theorem qI_snoc (q : List (Nat × Nat)) (p k : Nat) : pairs (qI (q ++ [(p, k)])) = pairs (qI q) ++ [.int .i64 (p : Int), .int .i64 (k : Int)] := by
  have : ∀ a b : List (Int × Int), pairs (a ++ b) = pairs a ++ pairs b := by
    intro a b
    induction a with
    | nil => rfl
    | cons x r ih => simp only [List.cons_append, pairs, ih]
  simp only [qI, List.map_append, List.map_cons, List.map_nil, this]
  rfl
theorem pairs_one {l : List (Int × Int)} : ∀ u ∈ pairs l, u.oneCell' = true := by
  induction l with
  | nil => intro u hu; cases hu
  | cons x r ih =>
    intro u hu
    simp only [pairs, List.mem_cons] at hu
    rcases hu with rfl | rfl | hu
    · rfl
    · rfl
    · exact ih u hu
def HP.que (B : Nat) (q : List (Nat × Nat)) (h : Nat) : HP where
  sem S w := ∃ A c, (HP.bag [HP.blk B 151 [.slice A q.length c, .int .i64 (h : Int)], HP.row 154 2 A q.length c (pairs (qI q))]).sem S w
  loc := fun S w w' h ⟨A, c, hb⟩ => ⟨A, c, (HP.bag _).loc S w w' h hb⟩
theorem OW.cvt {ops : Array Oper} {rest : List Oper} {H' : List HP} (h : ∀ w U, Chunks w U H → Chunks w U H') (k : OW P n w0 F ops K rest l H') : OW P n w0 F ops K rest l H := fun a w ha hw => k a w ha { hw with chunks := h w _ hw.chunks }
theorem AW.conv {ops : Array Oper} {HS H' : List HP} {fuel : Nat} {listed : Array Bool} (h : ∀ w U, Chunks w U H → Chunks w U H') (k : AW P n w0 F ops K HS fuel listed l H') : AW P n w0 F ops K HS fuel listed l H := fun a w ha hw => k a w ha { hw with chunks := h w _ hw.chunks }
theorem cv_sels {is : List Nat} {H' : List HP} (hs : E.sels H is = some H') : ∀ w U, Chunks w U H → Chunks w U H' := fun _ _ h => sels_chunks hs h
theorem cv_chunk (i : Nat) {p : HP} (p' : HP) {H' : List HP} (hi : sel H i = some (p, H')) (he : p = p') : ∀ w U, Chunks w U H → Chunks w U (p' :: H') := fun _ _ h => he ▸ h.perm (sel_perm hi)
theorem cv_gather (is : List Nat) (m : Nat) {H1 ps r : List HP} (hs : E.sels H is = some H1) (h2 : spl H1 m = some (ps, r)) : ∀ w U, Chunks w U H → Chunks w U (HP.bag ps :: r) := fun w U h => by
  have h3 := sels_chunks hs h
  rw [spl_eq h2] at h3
  exact h3.gather
theorem cv_quein {q : List (Nat × Nat)} (i j : Nat) {B cc h m : Nat} {A : Option Addr} {xs : List Value} {H1 H2 : List HP} (hi : sel H i = some (HP.blk B 151 [.slice A m cc, .int .i64 (h : Int)], H1)) (hj : sel H1 j = some (HP.row 154 2 A m cc xs, H2)) (hm : m = q.length) (hx : xs = pairs (qI q)) :
    ∀ w U, Chunks w U H → Chunks w U (HP.que B q h :: H2) := fun w U hc => by
  subst hm hx
  have h1 := hc.perm ((sel_perm hi).trans ((sel_perm hj).cons _))
  obtain ⟨S, g1, g2, g3⟩ := Chunks.gather (ps := [HP.blk B 151 [.slice A q.length cc, .int .i64 (h : Int)], HP.row 154 2 A q.length cc (pairs (qI q))]) (r := H2) h1
  exact ⟨S, ⟨A, cc, g1⟩, g2, g3⟩
theorem dist_upd (y : Pl) (D : Nat → Nat → Int) (k p : Nat) (m : Int) : HP.rows 3 y.x.K y.Xd (fun _ => y.x.n) y.ud (fun k' => iis y.x.n (up D k (up (D k) p m) k')) = HP.dist y (Bf.upd D k p m) := by
  unfold HP.dist
  congr 1
  funext k'
  congr 1
  funext i
  unfold up Bf.upd
  by_cases h1 : k' = k
  · subst h1
    by_cases h2 : i = p
    · subst h2; simp
    · simp [h2]
  · simp [h1]
/-- a call of a function value that has captured something, and may turn the chunk i. -/
theorem OW.callcM {ops : Array Oper} {o : Oper} {rest : List Oper} {d : Nat} {f : Nat} {fo : Operand} {xs : List Operand} {ts : Array TypeId} {vs caps : List Value} (hf : Nm P f)
    (hg : gd ops l o.guard = some true) (hd : o.dst = some d) (hn : Nat.blt d n.sz = true) (ho : o.op = .call { callee := .value fo, args := xs.toArray, argTypes := ts })
    (hfo : ev l fo = some (.func (.func f) #[] caps.toArray)) (hx : evs l xs = some vs) (R : Value → List HP → Prop) (i : Nat) {p : HP} {H' : List HP} (hi : E.sel H i = some (p, H'))
    (h : ∀ w S, HA w0 F (p :: H') w → p.sem S w → (∀ k, S k → k < w.heap.size ∧ ¬ F k) → Chunks w (fun k => F k ∨ S k) H' → Calls P f (vs ++ caps).toArray w (Post w (fun k => k < w.heap.size ∧ ¬ S k) R))
    (k : ∀ v Hn, R v Hn → OW P n w0 F ops K rest ((d, v) :: l) (Hn ++ H')) : OW P n w0 F ops K (o :: rest) l H := fun a w ha hw => by
  refine wpListIn_step fun K' hK' => ?_
  rw [if_pos (ha.wanted hg)]
  refine wi_enter (run_callc hf (ha.ev hfo) ho (ha.evs hx)) ?_
  have hw1 := hw.perm (sel_perm hi)
  obtain ⟨S, h1, h2, h3⟩ := hw1.chunks
  have hcall := h w S hw1 h1 h2 h3
  rw [show (vs ++ caps).toArray = vs.toArray ++ caps.toArray by simp] at hcall
  refine hcall.mono fun e w' ⟨v, Hn, he, hR, hw'⟩ => ?_
  refine ⟨v, he, ?_⟩
  rw [hd]
  refine hK' _ _ (k v Hn hR _ _ (ha.put hn v) ?_)
  have hF : ∀ k, F k → k < w.heap.size ∧ ¬ S k := fun k hf => ⟨Nat.lt_of_lt_of_le (hw.flt k hf) hw.size, fun hs => (h2 k hs).2 hf⟩
  refine ⟨hw'.os.trans hw.os, hw'.tape.trans hw.tape, hw'.output.trans hw.output, Nat.le_trans hw.size hw'.size, hw.flt, fun k hf => (hw'.kept k (hF k hf)).trans (hw.kept k hf), ?_⟩
  refine Chunks.app (G := fun k => k < w.heap.size ∧ ¬ S k) ?_ ?_
  · exact hw'.chunks.congr fun k => ⟨.inr, fun hk' => hk'.elim (hF k) id⟩
  · exact ChunksB.of (w := w) hw'.size (fun k hk' => hw'.kept k hk') (U := fun k => F k ∨ S k) (fun k hlt hn => ⟨hlt, fun hs => hn (.inr hs)⟩) (fun k hf => .inl hf) h3
/-! what can be read while the chunk S may turn. -/
theorem rd0_in {w : World} {S : Nat → Prop} {H' H2 : List HP} {y : Pl} {i : Nat} (hc : Chunks w (fun k => F k ∨ S k) H') (hi : sel H' i = some (HP.pl0 y, H2)) : y.rd0 w (Fm w S) := by
  obtain ⟨T, h1, h2⟩ := hc.at_ hi
  exact (pl0_rdS h1).mono fun k hk => ⟨(h2 k hk).1, fun hs => (h2 k hk).2 (.inr hs)⟩
theorem blk_in {w : World} {S : Nat → Prop} {H' H2 : List HP} {B T : Nat} {cs : List Value} {i : Nat} (hc : Chunks w (fun k => F k ∨ S k) H') (hi : sel H' i = some (HP.blk B T cs, H2)) : Rd w (Fm w S) (some ⟨B, 0, none⟩) cs := by
  obtain ⟨T, h1, h2⟩ := hc.at_ hi
  exact (blk_rdS h1).mono fun k hk => ⟨(h2 k hk).1, fun hs => (h2 k hk).2 (.inr hs)⟩
theorem CW.queout {c : Code} (i : Nat) {B h : Nat} {q : List (Nat × Nat)} {H1 : List HP} (hi : sel H i = some (HP.que B q h, H1)) (k : ∀ A cc, CW P n w0 F c K l (HP.blk B 151 [.slice A q.length cc, .int .i64 (h : Int)] :: HP.row 154 2 A q.length cc (pairs (qI q)) :: H1)) : CW P n w0 F c K l H := fun a w ha hw => by
  have h1 := hw.sel hi
  obtain ⟨S, ⟨A, cc, g1⟩, g2, g3⟩ := h1.chunks
  exact k A cc a w ha { h1 with chunks := Chunks.open (ps := [HP.blk B 151 [.slice A q.length cc, .int .i64 (h : Int)], HP.row 154 2 A q.length cc (pairs (qI q))]) ⟨S, g1, g2, g3⟩ }
end
end E
end Go.Proofs.Ytflkbabhbnmajaa

/- Laws about configs, plainly: one cell, entry or spot replaced, the order of spots, projections compared. No program in sight. -/
namespace Go.Proofs.Ytflkbabhbnmajaa
set_option linter.unusedSimpArgs false
set_option linter.unusedVariables false
namespace Cf
open Go
theorem teamsOk_iff {g : C} : teamsOk g = true ↔ (1 ≤ g.ts.length ∧ g.ts.length ≤ 3) ∧ (∀ j, j < g.ts.length → teamOk g j = true) ∧ (g.l.all (belongs g.ts) = true ∧ g.s.all (belongs g.ts) = true) ∧ (List.range g.ts.length).any (fun j => !absent (g.ts.getD j T.z)) = true := by
  unfold teamsOk
  simp only [Bool.and_eq_true, decide_eq_true_eq]
  rw [List.all_eq_true]
  simp only [List.mem_range]
  constructor
  · rintro ⟨⟨⟨⟨⟨a, b⟩, c⟩, d⟩, e⟩, f⟩; exact ⟨⟨a, b⟩, c, ⟨d, e⟩, f⟩
  · rintro ⟨⟨a, b⟩, c, ⟨d, e⟩, f⟩; exact ⟨⟨⟨⟨⟨a, b⟩, c⟩, d⟩, e⟩, f⟩
/-! ### One entry of the slice table replaced -/
/-! ### One cell replaced -/
def SpotAt (ts : List T) (p s : Int) : Prop := (s = -1 ∧ ∀ j, j < ts.length → ¬ p ∈ spots (ts.getD j T.z)) ∨ ∃ t : Nat, s = t ∧ t < ts.length ∧ p ∈ spots (ts.getD t T.z)
/-! ### Projections compared -/
def agr (g h : C) (t : Nat) : Prop := (g.a = h.a ∧ g.b = h.b ∧ g.s.length = h.s.length ∧ g.ts.length = h.ts.length ∧ g.st = h.st ∧ g.ts.getD t T.z = h.ts.getD t T.z) ∧
  (∀ p, p < g.l.length → (Fl.own t (g.l.getD p 0) = Fl.own t (h.l.getD p 0) ∧ decide (Fl.ownerC (g.l.getD p 0) = -2) = decide (Fl.ownerC (h.l.getD p 0) = -2))) ∧ ∀ i, i < g.s.length → (((g.s.getD i 0).toNat : Int) = t + 1 ↔ ((h.s.getD i 0).toNat : Int) = t + 1)
instance (g h : C) (t : Nat) : Decidable (agr g h t) := by unfold agr; infer_instance
/-! ### The order of spots -/
def swp (l : List Int) (a b : Nat) : List Int := (l.set a (l.getD b 0)).set b (l.getD a 0)
theorem spots_small {m : T} (h : small m) : (spots m).length ≤ 9 := by rw [spots_len]; obtain ⟨a, b, c⟩ := h; omega
end Cf
namespace E
open Go Go.RowKit
section
variable {P : Program} {n : Fr} {w0 : World} {F : Nat → Prop} {K : Kt} {l : Env} {H : List HP} {o : Oper}
/-- an element's address, of a slice that is not nil. -/
theorem PV.indexAddrS {t e : TypeId} {x ix : Operand} {A : Option Addr} {m c : Nat} {k : IntKind} {i : Int} {j bytes : Nat} {z : Value} (hA : A.isSome = true) (hT : P.underlying t = some (.slice e)) (hI : In P e z 1 bytes)
    (ho : o.op = .indexAddr t x ix) (hx : ev l x = some (.slice A m c)) (hix : ev l ix = some (.int k i)) (hj : i = (j : Int)) (hlt : j < m) : PV P n w0 F l H o (eptr A j) := fun a w ha hw => by
  obtain ⟨ad, rfl⟩ := Option.isSome_iff_exists.1 hA
  obtain ⟨q, hq, _, hs, _⟩ := hI.parts
  subst hj
  simp [execOp, ho, ha.ev hx, ha.ev hix, Instr.indexAt, asIntOf, run_underlying hT, sizeOf, typeInfo, hq, hs, hlt, eptr, show (0 : Int) ≤ (j : Int) by omega]
end
end E
end Go.Proofs.Ytflkbabhbnmajaa

/- More laws about configs, plainly: the present tenants, the spots of two tenants, projections, encodings. No program in sight. -/
namespace Go.Proofs.Ytflkbabhbnmajaa
set_option linter.unusedSimpArgs false
set_option linter.unusedVariables false
namespace Cf
open Go
section
variable {g : C} {k : Nat}
theorem teamsOk_of (h : check g = 0) : teamsOk g = true := (check_zero h).2.2.1
theorem team_at (h : check g = 0) (hk : k < g.ts.length) : absent (g.ts.getD k T.z) = true ∨ validTeam g.l k (g.ts.getD k T.z) = true := by
  have := (teamsOk_iff.1 (teamsOk_of h)).2.1 k hk
  unfold teamOk at this
  rwa [Bool.or_eq_true] at this
theorem tenants_ok (h : check g = 0) : tenantsR g = (tenants g.ts g.ts.length, 0) := if_pos h
end
/-! ### The spots of valid teams -/
section
variable {a b : Int} {l : List UInt8} {t : Int} {m : T}
end
/-! ### One spot replaced -/
def repl (m : T) (i : Nat) (p : Int) : T := if i < m.h.length then ⟨m.h.set i p, m.p, m.d, m.n1, m.n2, m.n3, m.n4, m.n5⟩
  else if i - m.h.length < m.p.length then ⟨m.h, m.p.set (i - m.h.length) p, m.d, m.n1, m.n2, m.n3, m.n4, m.n5⟩
  else ⟨m.h, m.p, m.d.set (i - m.h.length - m.p.length) p, m.n1, m.n2, m.n3, m.n4, m.n5⟩
def oth (l : List Int) (ix p : Int) (k : Nat) : Bool := (List.range k).all fun j => decide ((j : Int) = ix) || !decide (l.getD j 0 = p)
section
variable {A : Bool} {l : List Int} {ix p : Int} {k : Nat}
end
end Cf
end Go.Proofs.Ytflkbabhbnmajaa

/- Walks (printed by gen.py). -/
namespace Go.Proofs.Ytflkbabhbnmajaa
open Go Go.RowKit
set_option linter.unusedSimpArgs false
set_option linter.unusedVariables false

set_option maxRecDepth 100000 in
theorem Ar_ok (a b : Int) (A : Option Addr) (c : Nat) (l : List UInt8) (p : Int) (w0 : World) :
    Calls Try.prog 101 #[.agg #[.int .i64 a, .int .i64 b, .slice A l.length c], .int .i64 p] w0 (E.Post w0 (E.Old w0) fun v Hn => ∃ Bp Bf, v = .func (.func 126) #[] #[.pointer (some ⟨Bp, 0, none⟩), .pointer (some ⟨Bf, 0, none⟩)] ∧ Hn = [E.HP.blk Bp 3 [.int .i64 p], E.HP.blk Bf 24 [.int .i64 a, .int .i64 b, .slice A l.length c]]) := by
  refine E.calls_of (vs := [.agg #[.int .i64 a, .int .i64 b, .slice A l.length c], .int .i64 p]) (H := []) Try.func101 Try.ntmps101 rfl rfl (E.HA.start w0) ?_
  refine E.CW.seq ?_
  refine E.CW.region ?_
  refine E.OW.box rfl rfl rfl rfl rfl rfl (fun B1 => ?_)
  refine E.OW.box rfl rfl rfl rfl rfl rfl (fun B2 => ?_)
  refine E.OW.pure rfl rfl rfl (E.PV.assign rfl rfl) ?_
  refine E.OW.nil ?_
  refine E.then_n ?_
  refine E.CW.seq ?_
  refine E.CW.region ?_
  refine E.OW.pure rfl rfl rfl (E.PV.makeFunc (f := .func 126) (fs := []) (cs := [.tmp 3, .tmp 2]) rfl rfl rfl) ?_
  refine E.OW.pure rfl rfl rfl (E.PV.assign rfl rfl) ?_
  refine E.OW.nil ?_
  refine E.then_n ?_
  refine E.CW.ret ?_
  refine E.KR.one [0, 0] Try.results101 rfl rfl ?_
  exact ⟨_, _, rfl, rfl⟩

set_option maxRecDepth 100000 in
theorem ArI_ok (a b p : Int) (Z : Value) (Bp Bf L : Nat) (q : List Int → E.HP) (S : Nat → Prop) (w0 : World) (hhas : Fl.has a b p = true) (hY : E.YF Try.prog L q (Rt.nearI a b p)) (hS : (q []).sem S w0) (hb : ∀ k, S k → k < w0.heap.size) (hp : E.Rd w0 (E.Fm w0 S) (some ⟨Bp, 0, none⟩) [.int .i64 p]) (hf : E.Rd w0 (E.Fm w0 S) (some ⟨Bf, 0, none⟩) [.int .i64 a, .int .i64 b, Z]) :
    Calls Try.prog 126 #[.func (.yield L) #[] #[], .pointer (some ⟨Bp, 0, none⟩), .pointer (some ⟨Bf, 0, none⟩)] w0 (E.Post w0 (E.Fm w0 S) fun v Hn => Hn = [q (Rt.nearI a b p)]) := by
  refine E.calls_of (vs := [.func (.yield L) #[] #[], .pointer (some ⟨Bp, 0, none⟩), .pointer (some ⟨Bf, 0, none⟩)]) (H := [q []]) Try.func126 Try.ntmps126 rfl rfl (E.HA.startM hS hb) ?_
  refine E.CW.seq ?_
  refine E.CW.seq ?_
  refine E.CW.region ?_
  refine E.OW.pure rfl rfl rfl (E.PV.move rfl rfl) ?_
  refine E.OW.pure rfl rfl rfl (E.PV.load_at (E.rdc hp) na3 rfl rfl rfl) ?_
  refine E.OW.yield rfl rfl rfl rfl rfl rfl hY 0 rfl (Rt.near_first a b p) ?_
  refine E.OW.pure rfl rfl rfl (E.PV.not rfl rfl) ?_
  refine E.OW.nil ?_
  refine E.then_n ?_
  refine E.CW.cond rfl (fun hc => ?_) (fun hc => ?_)
  · (cases hc; done)
  · simp only [E.b0, E.b1, E.b2, E.b3, E.b4, E.b5, E.b6, E.b7, E.b8, E.b9, E.b10, E.b11, E.b12, E.b13, E.b14, E.b15, E.b16, E.b17, E.b18, E.b19, E.b20, reduceCtorEq] at hc
    all_goals (
      refine E.CW.skip ?_
      refine E.then_n ?_
      refine E.CW.seq ?_
      refine E.CW.region ?_
      refine E.OW.pure rfl rfl rfl (E.PV.assign rfl rfl) ?_
      refine E.OW.nil ?_
      refine E.then_n ?_
      refine E.CW.block ?_
      refine E.CW.loopk [0, 1, 2] 1 rfl rfl (fun mm mods Hm => ∃ d : Nat, mm = 4 - d ∧ mods = [(4, .int .i64 d)] ∧ Hm = [q (Rt.nearTo a b p d)] ∧ d ≤ 4) (4) ?_ ?_
      · exact ⟨[(4, _)], (by repeat (first | exact E.cov_nil | refine ⟨rfl, ?_⟩)), 0, rfl, rfl, rfl, by omega⟩
      · rintro _ _ _ ⟨d, rfl, rfl, rfl, hd⟩
        refine E.CW.seq ?_
        refine E.CW.seq ?_
        refine E.CW.region ?_
        refine E.OW.pure rfl rfl rfl (E.PV.move rfl rfl) ?_
        refine E.OW.pure rfl rfl rfl (E.PV.leq rfl rfl rfl) ?_
        refine E.OW.nil ?_
        refine E.then_n ?_
        refine E.CW.cond rfl (fun hc => ?_) (fun hc => ?_)
        · simp only [E.b0, E.b1, E.b2, E.b3, E.b4, E.b5, E.b6, E.b7, E.b8, E.b9, E.b10, E.b11, E.b12, E.b13, E.b14, E.b15, E.b16, E.b17, E.b18, E.b19, E.b20, reduceCtorEq] at hc
          all_goals (
            refine E.CW.skip ?_
            refine E.then_n ?_
            refine E.CW.seq ?_
            refine E.CW.block ?_
            refine E.CW.seq ?_
            rcases Fl.step_two (p := p) hhas (show 0 ≤ (d : Int) ∧ (d : Int) < 4 by omega) with ⟨hm, hst⟩ | ⟨hm, hst⟩
            · skip
              refine E.CW.region ?_
              refine E.OW.pure rfl rfl rfl (E.PV.fieldAddr fa24_0 rfl rfl) ?_
              refine E.OW.pure rfl rfl rfl (E.PV.load_at (E.rdc hf) na3 rfl rfl rfl) ?_
              refine E.OW.pure rfl rfl rfl (E.PV.fieldAddr fa24_1 rfl rfl) ?_
              refine E.OW.pure rfl rfl rfl (E.PV.load_at (E.rdc hf) na3 rfl rfl rfl) ?_
              refine E.OW.pure rfl rfl rfl (E.PV.load_at (E.rdc hp) na3 rfl rfl rfl) ?_
              refine E.OW.pure rfl rfl rfl (E.PV.move rfl rfl) ?_
              (refine E.OW.call nm127 rfl rfl rfl rfl rfl rfl _ (fun w hw => Step_ok _ _ _ _ w) ?_; rintro _ _ ⟨rfl, rfl⟩)
              refine E.OW.pure rfl rfl rfl (E.PV.move rfl rfl) ?_
              refine E.OW.pure rfl rfl rfl (E.PV.extract rfl rfl rfl) ?_
              refine E.OW.pure rfl rfl rfl (E.PV.extract rfl rfl rfl) ?_
              refine E.OW.pure rfl rfl rfl (E.PV.assign rfl rfl) ?_
              refine E.OW.pure rfl rfl rfl (E.PV.assign rfl rfl) ?_
              refine E.OW.nil ?_
              refine E.then_n ?_
              refine E.CW.seq ?_
              try (have hm2 : 0 ≤ Fl.mv a b p d := hm; obtain ⟨r, hr⟩ := Rt.near_at (show d < 4 by omega) hm2; rw [show Fl.mv a b p d = (Fl.step a b p d).1 from by rw [hst]] at hr)
              refine E.CW.region ?_
              refine E.OW.pure rfl rfl rfl (E.PV.move rfl rfl) ?_
              refine E.OW.pure rfl rfl rfl (E.PV.eql rfl rfl rfl) ?_
              refine E.OW.pure rfl rfl rfl (E.PV.move rfl rfl) ?_
              all_goals (refine E.OW.put 27 (.bool true) rfl (congrArg Value.bool ?_) ?_; (focus (rw [hst]; rfl)))
              all_goals (refine E.OW.pure rfl rfl rfl (E.PV.move rfl rfl) ?_)
              all_goals (refine E.OW.pure rfl rfl rfl (E.PV.move rfl rfl) ?_)
              all_goals (refine E.OW.yield rfl rfl rfl rfl rfl rfl hY 0 rfl hr ?_)
              all_goals (refine E.OW.pure rfl rfl rfl (E.PV.not rfl rfl) ?_)
              all_goals (refine E.OW.pure rfl rfl rfl (E.PV.pick_t rfl rfl rfl) ?_)
              all_goals (
                refine E.OW.nil ?_
                refine E.then_n ?_
                refine E.CW.cond rfl (fun hc => ?_) (fun hc => ?_)
                · (cases hc; done)
                · simp only [E.b0, E.b1, E.b2, E.b3, E.b4, E.b5, E.b6, E.b7, E.b8, E.b9, E.b10, E.b11, E.b12, E.b13, E.b14, E.b15, E.b16, E.b17, E.b18, E.b19, E.b20, reduceCtorEq] at hc
                  all_goals (
                    refine E.CW.skip ?_
                    refine E.blk_n ?_
                    refine E.then_n ?_
                    refine E.CW.region ?_
                    refine E.OW.pure rfl rfl rfl (E.PV.move rfl rfl) ?_
                    refine E.OW.pure rfl rfl rfl (E.PV.add_i64 rfl rfl rfl ?_) ?_; (focus (omega))
                    refine E.OW.pure rfl rfl rfl (E.PV.assign rfl rfl) ?_
                    refine E.OW.nil ?_
                    refine E.then_nf ?_
                    refine ⟨_, [(4, _)], [0], [_], ?_, by repeat (first | exact E.cov_nil | refine ⟨rfl, ?_⟩), rfl, d + 1, rfl, rfl, (by first | (have hm2 : 0 ≤ Fl.mv a b p d := hm; rw [Rt.near_yes hm2, hst]) | (have hm2 : Fl.mv a b p d < 0 := hm; rw [Rt.near_no hm2])), by omega⟩
                    omega))
            · skip
              refine E.CW.region ?_
              refine E.OW.pure rfl rfl rfl (E.PV.fieldAddr fa24_0 rfl rfl) ?_
              refine E.OW.pure rfl rfl rfl (E.PV.load_at (E.rdc hf) na3 rfl rfl rfl) ?_
              refine E.OW.pure rfl rfl rfl (E.PV.fieldAddr fa24_1 rfl rfl) ?_
              refine E.OW.pure rfl rfl rfl (E.PV.load_at (E.rdc hf) na3 rfl rfl rfl) ?_
              refine E.OW.pure rfl rfl rfl (E.PV.load_at (E.rdc hp) na3 rfl rfl rfl) ?_
              refine E.OW.pure rfl rfl rfl (E.PV.move rfl rfl) ?_
              (refine E.OW.call nm127 rfl rfl rfl rfl rfl rfl _ (fun w hw => Step_ok _ _ _ _ w) ?_; rintro _ _ ⟨rfl, rfl⟩)
              refine E.OW.pure rfl rfl rfl (E.PV.move rfl rfl) ?_
              refine E.OW.pure rfl rfl rfl (E.PV.extract rfl rfl rfl) ?_
              refine E.OW.pure rfl rfl rfl (E.PV.extract rfl rfl rfl) ?_
              refine E.OW.pure rfl rfl rfl (E.PV.assign rfl rfl) ?_
              refine E.OW.pure rfl rfl rfl (E.PV.assign rfl rfl) ?_
              refine E.OW.nil ?_
              refine E.then_n ?_
              refine E.CW.seq ?_
              try (have hm2 : 0 ≤ Fl.mv a b p d := hm; obtain ⟨r, hr⟩ := Rt.near_at (show d < 4 by omega) hm2; rw [show Fl.mv a b p d = (Fl.step a b p d).1 from by rw [hst]] at hr)
              refine E.CW.region ?_
              refine E.OW.pure rfl rfl rfl (E.PV.move rfl rfl) ?_
              refine E.OW.pure rfl rfl rfl (E.PV.eql rfl rfl rfl) ?_
              refine E.OW.pure rfl rfl rfl (E.PV.move rfl rfl) ?_
              all_goals (refine E.OW.put 27 (.bool false) rfl (congrArg Value.bool ?_) ?_; (focus (rw [hst]; rfl)))
              all_goals (refine E.OW.off rfl rfl rfl ?_)
              all_goals (refine E.OW.off rfl rfl rfl ?_)
              all_goals (refine E.OW.off rfl rfl rfl ?_)
              all_goals (refine E.OW.off rfl rfl rfl ?_)
              all_goals (refine E.OW.pure rfl rfl rfl (E.PV.pick_f rfl rfl rfl) ?_)
              all_goals (
                refine E.OW.nil ?_
                refine E.then_n ?_
                refine E.CW.cond rfl (fun hc => ?_) (fun hc => ?_)
                · (cases hc; done)
                · simp only [E.b0, E.b1, E.b2, E.b3, E.b4, E.b5, E.b6, E.b7, E.b8, E.b9, E.b10, E.b11, E.b12, E.b13, E.b14, E.b15, E.b16, E.b17, E.b18, E.b19, E.b20, reduceCtorEq] at hc
                  all_goals (
                    refine E.CW.skip ?_
                    refine E.blk_n ?_
                    refine E.then_n ?_
                    refine E.CW.region ?_
                    refine E.OW.pure rfl rfl rfl (E.PV.move rfl rfl) ?_
                    refine E.OW.pure rfl rfl rfl (E.PV.add_i64 rfl rfl rfl ?_) ?_; (focus (omega))
                    refine E.OW.pure rfl rfl rfl (E.PV.assign rfl rfl) ?_
                    refine E.OW.nil ?_
                    refine E.then_nf ?_
                    refine ⟨_, [(4, _)], [0], [_], ?_, by repeat (first | exact E.cov_nil | refine ⟨rfl, ?_⟩), rfl, d + 1, rfl, rfl, (by first | (have hm2 : 0 ≤ Fl.mv a b p d := hm; rw [Rt.near_yes hm2, hst]) | (have hm2 : Fl.mv a b p d < 0 := hm; rw [Rt.near_no hm2])), by omega⟩
                    omega)))
        · simp only [E.b0, E.b1, E.b2, E.b3, E.b4, E.b5, E.b6, E.b7, E.b8, E.b9, E.b10, E.b11, E.b12, E.b13, E.b14, E.b15, E.b16, E.b17, E.b18, E.b19, E.b20, reduceCtorEq] at hc
          all_goals (
            refine E.CW.exit ?_
            refine E.then_x ?_
            refine E.then_x ?_
            refine E.blk_eq ?_
            refine (E.KR.zero [0] Try.results126 rfl ?_).1
            obtain rfl : d = 4 := by omega
            exact rfl))
end Go.Proofs.Ytflkbabhbnmajaa

/- Closed facts on the program (printed by gen.py). -/
namespace Go.Proofs.Ytflkbabhbnmajaa
open Go Go.RowKit
set_option linter.unusedSimpArgs false
set_option linter.unusedVariables false
theorem bsl149_1_0 (x0 : Int) (x1 : Int) (w : World) : (Instr.buildSlice 149 1 #[(0, .agg #[.int .i64 x0, .int .i64 x1])]).run Try.prog w = .ok (.slice (some ⟨w.heap.size, 0, none⟩) 1 1) (w.alloc (.cells #[.int .i64 x0, .int .i64 x1] 154)) := by kernel_rfl
theorem fa151_0 : E.FA Try.prog 151 0 0 := fun _ _ _ => by kernel_rfl
theorem fa151_1 : E.FA Try.prog 151 1 1 := fun _ _ _ => by kernel_rfl
theorem in149 : E.In Try.prog 149 (.slice none 0 0) 1 24 := by unfold E.In; kernel_rfl
theorem in154 : E.In Try.prog 154 (.agg #[.int .i64 0, .int .i64 0]) 2 16 := by unfold E.In; kernel_rfl
theorem is154 : E.Is Try.prog 154 2 := ⟨fun _ => by kernel_rfl, fun _ => by kernel_rfl⟩
theorem na149 : E.Na Try.prog 149 := fun _ => by kernel_rfl
end Go.Proofs.Ytflkbabhbnmajaa

/- Walks (printed by gen.py). -/
namespace Go.Proofs.Ytflkbabhbnmajaa
open Go Go.RowKit
set_option linter.unusedSimpArgs false
set_option linter.unusedVariables false

set_option maxRecDepth 100000 in
theorem push_ok (B : Nat) (q : List (Nat × Nat)) (h p k : Nat) (S : Nat → Prop) (w0 : World) (hS : (E.HP.que B q h).sem S w0) (hb : ∀ k, S k → k < w0.heap.size) (hq : q.length ≤ 2000) :
    Calls Try.prog 129 #[.pointer (some ⟨B, 0, none⟩), .agg #[.int .i64 (p : Int), .int .i64 (k : Int)]] w0 (E.Post w0 (E.Fm w0 S) fun v Hn => Hn = [E.HP.que B (q ++ [(p, k)]) (h)]) := by
  refine E.calls_of (vs := [.pointer (some ⟨B, 0, none⟩), .agg #[.int .i64 (p : Int), .int .i64 (k : Int)]]) (H := [E.HP.que B (q) (h)]) Try.func129 Try.ntmps129 rfl rfl (E.HA.startM hS hb) ?_
  refine E.CW.seq ?_
  refine E.CW.queout 0 rfl (fun AQ cQ => ?_)
  refine E.CW.region ?_
  refine E.OW.box rfl rfl rfl rfl rfl rfl (fun B1 => ?_)
  refine E.OW.nil ?_
  refine E.then_n ?_
  refine E.CW.drawx mixed [0] rfl ?_
  all_goals (refine E.AW.first 0 rfl (by kernel_rfl) (by kernel_rfl) (by kernel_rfl) rfl rfl rfl (E.PV.move rfl rfl) ?_)
  all_goals (refine E.AW.first 1 rfl (by kernel_rfl) (by kernel_rfl) (by kernel_rfl) rfl rfl rfl (E.PV.move rfl rfl) ?_)
  all_goals (refine E.AW.first 2 rfl (by kernel_rfl) (by kernel_rfl) (by kernel_rfl) rfl rfl rfl (E.PV.nilCheck rfl rfl) ?_)
  all_goals (refine E.AW.first 3 rfl (by kernel_rfl) (by kernel_rfl) (by kernel_rfl) rfl rfl rfl (E.PV.fieldAddr fa151_0 rfl rfl) ?_)
  all_goals (refine E.AW.first 5 rfl (by kernel_rfl) (by kernel_rfl) (by kernel_rfl) rfl rfl rfl (E.PV.loads (i := 0) is154 rfl rfl rfl rfl) ?_)
  all_goals (
    refine E.AW.two 4 6 (by kernel_rfl) rfl rfl ?ga1 ?gb1
    case' ga1 =>
        all_goals (refine E.OW.pure rfl rfl rfl (E.PV.load (i := 1) na149 rfl rfl rfl rfl) ?_)
        all_goals (first | (refine E.AW.nil [0] rfl ?_) | (refine E.AW.nil [1] rfl ?_) | (refine E.AW.nil [2] rfl ?_) | (refine E.AW.nil [3] rfl ?_) | (refine E.AW.nil [4] rfl ?_) | (refine E.AW.nil [5] rfl ?_) | (refine E.AW.nil [6] rfl ?_) | (refine E.AW.nil [0] rfl ?_) | (refine E.AW.nil [0] rfl ?_))
        all_goals (refine E.AW.one 6 (by kernel_rfl) rfl ?_)
        all_goals (refine E.OW.buildSlice (Et := 154) (sz := 2) (ps := [(0, .tmp 9)]) rfl rfl rfl rfl rfl (by simp) (by unfold maxLen; omega) (fun w => bsl149_1_0 _ _ w) (fun A2 => ?_))
        all_goals (first | (refine E.AW.nil [0] rfl ?_) | (refine E.AW.nil [1] rfl ?_) | (refine E.AW.nil [2] rfl ?_) | (refine E.AW.nil [3] rfl ?_) | (refine E.AW.nil [4] rfl ?_) | (refine E.AW.nil [5] rfl ?_) | (refine E.AW.nil [6] rfl ?_) | (refine E.AW.nil [0] rfl ?_) | (refine E.AW.nil [0] rfl ?_))
        all_goals (refine E.AW.one 7 (by kernel_rfl) rfl ?_)
        all_goals (refine E.OW.append (i := 3) Try.underlying149 in154 rfl rfl (by decide) rfl rfl rfl rfl rfl rfl rfl (E.rdr (i := 0) rfl) ?_ ?_ ?_ ?_ (fun A3 c3 => ?_); (focus ((first | rfl | (simp; done) | omega))); (focus ((first | exact E.ints_one | exact E.u8s_one | (simp [Value.oneCell']; done)))); (focus ((unfold maxLen; omega))); (focus ((first | omega | (simp only [List.length_append, List.length_cons, List.length_nil] at *; omega) | (unfold maxLen at *; omega)))))
        all_goals (first | (refine E.AW.nil [0] rfl ?_) | (refine E.AW.nil [1] rfl ?_) | (refine E.AW.nil [2] rfl ?_) | (refine E.AW.nil [3] rfl ?_) | (refine E.AW.nil [4] rfl ?_) | (refine E.AW.nil [5] rfl ?_) | (refine E.AW.nil [6] rfl ?_) | (refine E.AW.nil [0] rfl ?_) | (refine E.AW.nil [0] rfl ?_))
        all_goals (refine E.AW.first 8 rfl (by kernel_rfl) (by kernel_rfl) (by kernel_rfl) rfl rfl rfl (E.PV.nilCheck rfl rfl) ?_)
        all_goals (refine E.AW.first 9 rfl (by kernel_rfl) (by kernel_rfl) (by kernel_rfl) rfl rfl rfl (E.PV.fieldAddr fa151_0 rfl rfl) ?_)
        all_goals (refine E.AW.one 10 (by kernel_rfl) rfl ?_)
        all_goals (refine E.OW.store (i := 3) in149.size rfl rfl rfl rfl rfl rfl rfl rfl rfl ?_)
        all_goals (first | (refine E.AW.nil [0] rfl ?_) | (refine E.AW.nil [1] rfl ?_) | (refine E.AW.nil [2] rfl ?_) | (refine E.AW.nil [3] rfl ?_) | (refine E.AW.nil [4] rfl ?_) | (refine E.AW.nil [5] rfl ?_) | (refine E.AW.nil [6] rfl ?_) | (refine E.AW.nil [0] rfl ?_) | (refine E.AW.nil [0] rfl ?_))
        all_goals (refine E.AW.conv (E.cv_quein (q := q ++ [(p, k)]) 0 0 rfl rfl (by simp) (E.qI_snoc q p k).symm) ?_)
        all_goals (refine E.AW.done (by kernel_rfl) ?_)
    case' gb1 =>
        all_goals (refine E.OW.buildSlice (Et := 154) (sz := 2) (ps := [(0, .tmp 9)]) rfl rfl rfl rfl rfl (by simp) (by unfold maxLen; omega) (fun w => bsl149_1_0 _ _ w) (fun A4 => ?_))
        all_goals (first | (refine E.AW.nil [0] rfl ?_) | (refine E.AW.nil [1] rfl ?_) | (refine E.AW.nil [2] rfl ?_) | (refine E.AW.nil [3] rfl ?_) | (refine E.AW.nil [4] rfl ?_) | (refine E.AW.nil [5] rfl ?_) | (refine E.AW.nil [6] rfl ?_) | (refine E.AW.nil [0] rfl ?_) | (refine E.AW.nil [0] rfl ?_))
        all_goals (refine E.AW.one 4 (by kernel_rfl) rfl ?_)
        all_goals (refine E.OW.pure rfl rfl rfl (E.PV.load (i := 2) na149 rfl rfl rfl rfl) ?_)
        all_goals (first | (refine E.AW.nil [0] rfl ?_) | (refine E.AW.nil [1] rfl ?_) | (refine E.AW.nil [2] rfl ?_) | (refine E.AW.nil [3] rfl ?_) | (refine E.AW.nil [4] rfl ?_) | (refine E.AW.nil [5] rfl ?_) | (refine E.AW.nil [6] rfl ?_) | (refine E.AW.nil [0] rfl ?_) | (refine E.AW.nil [0] rfl ?_))
        all_goals (refine E.AW.one 7 (by kernel_rfl) rfl ?_)
        all_goals (refine E.OW.append (i := 3) Try.underlying149 in154 rfl rfl (by decide) rfl rfl rfl rfl rfl rfl rfl (E.rdr (i := 0) rfl) ?_ ?_ ?_ ?_ (fun A5 c5 => ?_); (focus ((first | rfl | (simp; done) | omega))); (focus ((first | exact E.ints_one | exact E.u8s_one | (simp [Value.oneCell']; done)))); (focus ((unfold maxLen; omega))); (focus ((first | omega | (simp only [List.length_append, List.length_cons, List.length_nil] at *; omega) | (unfold maxLen at *; omega)))))
        all_goals (first | (refine E.AW.nil [0] rfl ?_) | (refine E.AW.nil [1] rfl ?_) | (refine E.AW.nil [2] rfl ?_) | (refine E.AW.nil [3] rfl ?_) | (refine E.AW.nil [4] rfl ?_) | (refine E.AW.nil [5] rfl ?_) | (refine E.AW.nil [6] rfl ?_) | (refine E.AW.nil [0] rfl ?_) | (refine E.AW.nil [0] rfl ?_))
        all_goals (refine E.AW.first 8 rfl (by kernel_rfl) (by kernel_rfl) (by kernel_rfl) rfl rfl rfl (E.PV.nilCheck rfl rfl) ?_)
        all_goals (refine E.AW.first 9 rfl (by kernel_rfl) (by kernel_rfl) (by kernel_rfl) rfl rfl rfl (E.PV.fieldAddr fa151_0 rfl rfl) ?_)
        all_goals (refine E.AW.one 10 (by kernel_rfl) rfl ?_)
        all_goals (refine E.OW.store (i := 3) in149.size rfl rfl rfl rfl rfl rfl rfl rfl rfl ?_)
        all_goals (first | (refine E.AW.nil [0] rfl ?_) | (refine E.AW.nil [1] rfl ?_) | (refine E.AW.nil [2] rfl ?_) | (refine E.AW.nil [3] rfl ?_) | (refine E.AW.nil [4] rfl ?_) | (refine E.AW.nil [5] rfl ?_) | (refine E.AW.nil [6] rfl ?_) | (refine E.AW.nil [0] rfl ?_) | (refine E.AW.nil [0] rfl ?_))
        all_goals (refine E.AW.conv (E.cv_quein (q := q ++ [(p, k)]) 0 0 rfl rfl (by simp) (E.qI_snoc q p k).symm) ?_)
        all_goals (refine E.AW.done (by kernel_rfl) ?_))
  all_goals (
    skip
    refine (E.KR.zero [0] Try.results129 rfl ?_).1
    exact rfl)

set_option maxRecDepth 100000 in
theorem pop_ok (B : Nat) (q : List (Nat × Nat)) (h : Nat) (S : Nat → Prop) (w0 : World) (hS : (E.HP.que B q h).sem S w0) (hb : ∀ k, S k → k < w0.heap.size) (hq : q.length ≤ 2000) :
    Calls Try.prog 130 #[.pointer (some ⟨B, 0, none⟩)] w0 (E.Post w0 (E.Fm w0 S) fun v Hn => ∃ (b : Bool) (x1 x2 : Int) (h2 : Nat), v = .tuple #[.agg #[.int .i64 x1, .int .i64 x2], .bool b] ∧ Hn = [E.HP.que B (q) (h2)] ∧ ((b = true ∧ h < q.length ∧ x1 = ((Bf.at_ q h).1 : Int) ∧ x2 = ((Bf.at_ q h).2 : Int) ∧ h2 = h + 1) ∨ (b = false ∧ q.length ≤ h ∧ h2 = h))) := by
  have hqi := E.qI_length q
  refine E.calls_of (vs := [.pointer (some ⟨B, 0, none⟩)]) (H := [E.HP.que B (q) (h)]) Try.func130 Try.ntmps130 rfl rfl (E.HA.startM hS hb) ?_
  refine E.CW.seq ?_
  refine E.CW.queout 0 rfl (fun AQ cQ => ?_)
  refine E.CW.region ?_
  refine E.OW.alloc (in154.zr) rfl rfl rfl rfl rfl (fun B1 => ?_)
  refine E.OW.pure rfl rfl rfl (E.PV.assign rfl rfl) ?_
  refine E.OW.nil ?_
  refine E.then_n ?_
  refine E.CW.seq ?_
  refine E.CW.region ?_
  refine E.OW.alloc (in154.zr) rfl rfl rfl rfl rfl (fun B2 => ?_)
  refine E.OW.nil ?_
  refine E.then_n ?_
  refine E.CW.seq ?_
  refine E.CW.seq ?_
  refine E.CW.draw mixed (by kernel_rfl) ?_
  refine E.QW.pure rfl rfl rfl (E.PV.move rfl rfl) ?_
  refine E.QW.pure rfl rfl rfl (E.PV.nilCheck rfl rfl) ?_
  refine E.QW.pure rfl rfl rfl (E.PV.fieldAddr fa151_1 rfl rfl) ?_
  refine E.QW.pure rfl rfl rfl (E.PV.load (i := 2) na3 rfl rfl rfl rfl) ?_
  refine E.QW.pure rfl rfl rfl (E.PV.move rfl rfl) ?_
  refine E.QW.pure rfl rfl rfl (E.PV.nilCheck rfl rfl) ?_
  refine E.QW.pure rfl rfl rfl (E.PV.fieldAddr fa151_0 rfl rfl) ?_
  refine E.QW.pure rfl rfl rfl (E.PV.load (i := 2) na149 rfl rfl rfl rfl) ?_
  refine E.QW.pure rfl rfl rfl (E.PV.len Try.underlying149 rfl rfl) ?_
  refine E.QW.pure rfl rfl rfl (E.PV.geq rfl rfl rfl) ?_
  refine E.QW.nil ?_
  refine E.then_n ?_
  refine E.CW.cond rfl (fun hc => ?_) (fun hc => ?_)
  · simp only [E.b0, E.b1, E.b2, E.b3, E.b4, E.b5, E.b6, E.b7, E.b8, E.b9, E.b10, E.b11, E.b12, E.b13, E.b14, E.b15, E.b16, E.b17, E.b18, E.b19, E.b20, reduceCtorEq] at hc
    all_goals (
      refine E.CW.seq ?_
      refine E.CW.region ?_
      refine E.OW.pure rfl rfl rfl (E.PV.loads (i := 0) is154 rfl rfl rfl rfl) ?_
      refine E.OW.store (i := 1) in154.size rfl rfl rfl rfl rfl rfl rfl rfl rfl ?_
      refine E.OW.pure rfl rfl rfl (E.PV.assign rfl rfl) ?_
      refine E.OW.cvt (E.cv_quein (q := q) (h := h) 2 2 rfl rfl rfl rfl) ?_
      refine E.OW.nil ?_
      refine E.then_n ?_
      refine E.CW.ret ?_
      refine E.then_ret ?_
      refine E.KR.rv2 [0] Try.results130 (E.rv.cell is154 rfl (E.sli 1 rfl) rfl) rfl rfl ?_
      exact ⟨false, 0, 0, h, rfl, rfl, .inr ⟨rfl, by omega, rfl⟩⟩)
  · simp only [E.b0, E.b1, E.b2, E.b3, E.b4, E.b5, E.b6, E.b7, E.b8, E.b9, E.b10, E.b11, E.b12, E.b13, E.b14, E.b15, E.b16, E.b17, E.b18, E.b19, E.b20, reduceCtorEq] at hc
    all_goals (
      refine E.CW.skip ?_
      refine E.then_n ?_
      refine E.CW.seq ?_
      refine E.CW.drawx mixed [2, 2] rfl ?_
      all_goals (refine E.AW.first 0 rfl (by kernel_rfl) (by kernel_rfl) (by kernel_rfl) rfl rfl rfl (E.PV.move rfl rfl) ?_)
      all_goals (refine E.AW.first 1 rfl (by kernel_rfl) (by kernel_rfl) (by kernel_rfl) rfl rfl rfl (E.PV.nilCheck rfl rfl) ?_)
      all_goals (refine E.AW.first 2 rfl (by kernel_rfl) (by kernel_rfl) (by kernel_rfl) rfl rfl rfl (E.PV.fieldAddr fa151_0 rfl rfl) ?_)
      all_goals (refine E.AW.first 3 rfl (by kernel_rfl) (by kernel_rfl) (by kernel_rfl) rfl rfl rfl (E.PV.load (i := 0) na149 rfl rfl rfl rfl) ?_)
      all_goals (refine E.AW.first 4 rfl (by kernel_rfl) (by kernel_rfl) (by kernel_rfl) rfl rfl rfl (E.PV.move rfl rfl) ?_)
      all_goals (refine E.AW.first 5 rfl (by kernel_rfl) (by kernel_rfl) (by kernel_rfl) rfl rfl rfl (E.PV.nilCheck rfl rfl) ?_)
      all_goals (refine E.AW.first 6 rfl (by kernel_rfl) (by kernel_rfl) (by kernel_rfl) rfl rfl rfl (E.PV.fieldAddr fa151_1 rfl rfl) ?_)
      all_goals (refine E.AW.first 7 rfl (by kernel_rfl) (by kernel_rfl) (by kernel_rfl) rfl rfl rfl (E.PV.load (i := 0) na3 rfl rfl rfl rfl) ?_)
      all_goals (refine E.AW.first 8 rfl (by kernel_rfl) (by kernel_rfl) (by kernel_rfl) rfl rfl rfl (E.PV.indexAddr (E.rdr (i := 1) rfl) Try.underlying149 in154 rfl rfl rfl rfl ?_ ?_ (by decide)) ?_; (focus (first | (simp; done) | (simp; omega))); (focus (omega)))
      all_goals (refine E.AW.first 9 rfl (by kernel_rfl) (by kernel_rfl) (by kernel_rfl) rfl rfl rfl (E.PV.load_pair (E.rdr (i := 1) rfl) is154 rfl rfl ?_) ?_; (focus (omega)))
      all_goals (refine E.AW.one 10 (by kernel_rfl) rfl ?_)
      all_goals (refine E.OW.alloc (in154.zr) rfl rfl rfl rfl rfl (fun B3 => ?_))
      all_goals (first | (refine E.AW.nil [2, 2] rfl ?_) | (refine E.AW.nil [3, 3] rfl ?_) | (refine E.AW.nil [4, 4] rfl ?_) | (refine E.AW.nil [5, 5] rfl ?_) | (refine E.AW.nil [6, 6] rfl ?_) | (refine E.AW.nil [7, 7] rfl ?_) | (refine E.AW.nil [8, 8] rfl ?_) | (refine E.AW.nil [1, 1] rfl ?_) | (refine E.AW.nil [0, 0] rfl ?_))
      all_goals (refine E.AW.one 11 (by kernel_rfl) rfl ?_)
      all_goals (refine E.OW.store (i := 0) in154.size rfl rfl rfl rfl rfl rfl rfl rfl rfl ?_)
      all_goals (first | (refine E.AW.nil [2, 2] rfl ?_) | (refine E.AW.nil [3, 3] rfl ?_) | (refine E.AW.nil [4, 4] rfl ?_) | (refine E.AW.nil [5, 5] rfl ?_) | (refine E.AW.nil [6, 6] rfl ?_) | (refine E.AW.nil [7, 7] rfl ?_) | (refine E.AW.nil [8, 8] rfl ?_) | (refine E.AW.nil [1, 1] rfl ?_) | (refine E.AW.nil [0, 0] rfl ?_))
      all_goals (refine E.AW.done (by kernel_rfl) ?_)
      all_goals (
        skip
        refine E.then_n ?_
        refine E.CW.seq ?_
        refine E.CW.region ?_
        refine E.OW.pure rfl rfl rfl (E.PV.move rfl rfl) ?_
        refine E.OW.pure rfl rfl rfl (E.PV.nilCheck rfl rfl) ?_
        refine E.OW.pure rfl rfl rfl (E.PV.fieldAddr fa151_1 rfl rfl) ?_
        refine E.OW.pure rfl rfl rfl (E.PV.load (i := 3) na3 rfl rfl rfl rfl) ?_
        refine E.OW.pure rfl rfl rfl (E.PV.add_i64 rfl rfl rfl ?_) ?_; (focus (omega))
        refine E.OW.pure rfl rfl rfl (E.PV.nilCheck rfl rfl) ?_
        refine E.OW.pure rfl rfl rfl (E.PV.fieldAddr fa151_1 rfl rfl) ?_
        refine E.OW.store (i := 3) in3.size rfl rfl rfl rfl rfl rfl rfl rfl rfl ?_
        refine E.OW.nil ?_
        refine E.then_n ?_
        refine E.CW.seq ?_
        refine E.CW.region ?_
        refine E.OW.pure rfl rfl rfl (E.PV.loads (i := 1) is154 rfl rfl rfl rfl) ?_
        refine E.OW.store (i := 3) in154.size rfl rfl rfl rfl rfl rfl rfl rfl rfl ?_
        refine E.OW.pure rfl rfl rfl (E.PV.assign rfl rfl) ?_
        refine E.OW.cvt (E.cv_quein (q := q) (h := h + 1) 1 3 rfl rfl rfl rfl) ?_
        refine E.OW.nil ?_
        refine E.then_n ?_
        refine E.CW.ret ?_
        refine E.KR.rv2 [0] Try.results130 (E.rv.cell is154 rfl (E.sli 1 rfl) rfl) rfl rfl ?_
        exact ⟨true, _, _, h + 1, rfl, rfl, .inl ⟨rfl, by omega, congrArg Prod.fst (E.qI_get q h), congrArg Prod.snd (E.qI_get q h), rfl⟩⟩))
end Go.Proofs.Ytflkbabhbnmajaa

/- Closed facts on the program (printed by gen.py). -/
namespace Go.Proofs.Ytflkbabhbnmajaa
open Go Go.RowKit
set_option linter.unusedSimpArgs false
set_option linter.unusedVariables false
theorem bld154_0_1 (x0 : Int) (x1 : Int) (w : World) : (Instr.build 154 #[(0, .int .i64 x0), (1, .int .i64 x1)]).run Try.prog w = .ok (.agg #[.int .i64 x0, .int .i64 x1]) w := by kernel_rfl
theorem fa154_0 : E.FA Try.prog 154 0 0 := fun _ _ _ => by kernel_rfl
theorem fa154_1 : E.FA Try.prog 154 1 1 := fun _ _ _ => by kernel_rfl
theorem fa93_0 : E.FA Try.prog 93 0 0 := fun _ _ _ => by kernel_rfl
theorem fa93_1 : E.FA Try.prog 93 1 1 := fun _ _ _ => by kernel_rfl
theorem fa93_2 : E.FA Try.prog 93 2 2 := fun _ _ _ => by kernel_rfl
theorem fa93_3 : E.FA Try.prog 93 3 3 := fun _ _ _ => by kernel_rfl
theorem fa93_4 : E.FA Try.prog 93 4 4 := fun _ _ _ => by kernel_rfl
theorem in151 : E.In Try.prog 151 (.agg #[.slice none 0 0, .int .i64 0]) 2 32 := by unfold E.In; kernel_rfl
theorem in4 : E.In Try.prog 4 (.bool false) 1 1 := by unfold E.In; kernel_rfl
theorem in89 : E.In Try.prog 89 (.slice none 0 0) 1 24 := by unfold E.In; kernel_rfl
theorem na4 : E.Na Try.prog 4 := fun _ => by kernel_rfl
theorem na87 : E.Na Try.prog 87 := fun _ => by kernel_rfl
theorem na89 : E.Na Try.prog 89 := fun _ => by kernel_rfl
theorem na90 : E.Na Try.prog 90 := fun _ => by kernel_rfl
theorem na91 : E.Na Try.prog 91 := fun _ => by kernel_rfl
theorem nm128 : E.Nm Try.prog 128 := ⟨Try.f128, Try.func128, rfl, by kernel_rfl⟩
theorem nm129 : E.Nm Try.prog 129 := ⟨Try.f129, Try.func129, rfl, by kernel_rfl⟩
theorem nm130 : E.Nm Try.prog 130 := ⟨Try.f130, Try.func130, rfl, by kernel_rfl⟩
end Go.Proofs.Ytflkbabhbnmajaa
