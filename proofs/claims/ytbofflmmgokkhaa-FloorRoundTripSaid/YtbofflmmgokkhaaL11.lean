/- Walks (printed by gen.py). -/
import Derived.Test.YtbofflmmgokkhaaG6
import Derived.Test.YtbofflmmgokkhaaFlR
namespace Go.Proofs.Ytbofflmmgokkhaa
open Go Go.RowKit
set_option linter.unusedSimpArgs false
set_option linter.unusedVariables false

theorem ParseD_ok (a b : Int) (l : List UInt8) (hv : Fl.validF a b l = true) (w0 : World) : Calls Try.prog 52 #[E.sv (Fl.draws a l l.length)] w0 (E.Post w0 (E.Old w0) fun v Hn => ∃ A2 c2, v = .tuple #[.agg #[.int .i64 a, .int .i64 b, .slice A2 l.length c2], .int .i64 0] ∧ Hn = [E.HP.row 5 1 A2 l.length c2 (E.u8s l)]) := by
  have h := Parse_ok (Fl.draws a l l.length) w0 (by have := Fl.draws_len a l l.length; have := Fl.validF_len hv; omega)
  rw [Fl.parse_draw hv] at h
  exact h

set_option maxRecDepth 100000 in
theorem FloorRoundTrip_ok (a b : Int) (A : Option Addr) (c : Nat) (l : List UInt8) (s : List UInt8) (w0 : World) (hl : l.length ≤ 140737488355328) (hs : s.length ≤ 140737488355328) (hX : E.Rd w0 (E.Old w0) A (E.u8s l)) :
    Calls Try.prog 9 #[.agg #[.int .i64 a, .int .i64 b, .slice A l.length c], E.sv s] w0 (E.Post w0 (E.Old w0) fun v Hn => v = .bool true ∧ Hn = []) := by
  refine E.calls_of (vs := [.agg #[.int .i64 a, .int .i64 b, .slice A l.length c], E.sv s]) (H := []) Try.func9 Try.ntmps9 rfl rfl (E.HA.start w0) ?_
  refine E.CW.seq ?_
  refine E.CW.region ?_
  refine E.OW.box rfl rfl rfl rfl rfl rfl (fun B1 => ?_)
  refine E.OW.pure rfl rfl rfl (E.PV.assign rfl rfl) ?_
  refine E.OW.nil ?_
  refine E.then_n ?_
  refine E.CW.seq ?_
  refine E.CW.region ?_
  (refine E.OW.call nm54 rfl rfl rfl rfl rfl rfl _ (fun w hw => alive_ok w) ?_; rintro _ _ ⟨rfl, rfl⟩)
  refine E.OW.pure rfl rfl rfl (E.PV.assign rfl rfl) ?_
  refine E.OW.nil ?_
  refine E.then_n ?_
  refine E.CW.seq ?_
  refine E.CW.seq ?_
  refine E.CW.region ?_
  refine E.OW.pure rfl rfl rfl (E.PV.loads (i := 0) is48 rfl rfl rfl rfl) ?_
  (refine E.OW.call nm57 rfl rfl rfl rfl rfl rfl _ (fun w hw => rValidFloor_ok _ _ _ _ _ w ?_ ?_) ?_; (focus (assumption)); (focus (refine hw.rd ?_; assumption)); rintro _ _ ⟨rfl, rfl⟩)
  refine E.OW.nil ?_
  refine E.then_n ?_
  refine E.CW.cond rfl (fun hc => ?_) (fun hc => ?_)
  · skip
    all_goals (
      refine E.CW.seq ?_
      refine E.CW.region ?_
      refine E.OW.pure rfl rfl rfl (E.PV.loads (i := 0) is48 rfl rfl rfl rfl) ?_
      (refine E.OW.call nm50 rfl rfl rfl rfl rfl rfl _ (fun w hw => Draw_ok _ _ _ _ _ w ?_ ?_) ?_; (focus (assumption)); (focus (refine hw.rd ?_; assumption)); rintro _ _ ⟨rfl, rfl⟩)
      refine E.OW.pure rfl rfl rfl (E.PV.move rfl rfl) ?_
      refine E.OW.pure rfl rfl rfl (E.PV.extract rfl rfl rfl) ?_
      refine E.OW.pure rfl rfl rfl (E.PV.extract rfl rfl rfl) ?_
      refine E.OW.pure rfl rfl rfl (E.PV.assign rfl rfl) ?_
      refine E.OW.pure rfl rfl rfl (E.PV.assign rfl rfl) ?_
      refine E.OW.nil ?_
      refine E.then_n ?_
      refine E.CW.seq ?_
      have hv : Fl.validF a b l = true := by assumption
      have h64 := Fl.validF_len hv
      have hvv := Fl.valid_iff.1 (Fl.validF_iff.1 hv).1.1
      have hda := Fl.draws_all hv
      have hdr : Fl.draw a b l = (Fl.draws a l l.length, 0) := if_pos hv
      refine E.CW.put 6 (E.sv (Fl.draws a l l.length)) rfl (by rw [hdr]; rfl) ?_
      refine E.CW.put 7 (.int .i64 0) rfl (by rw [hdr]; rfl) ?_
      refine E.CW.region ?_
      refine E.OW.pure rfl rfl rfl (E.PV.move rfl rfl) ?_
      (refine E.OW.call nm52 rfl rfl rfl rfl rfl rfl _ (fun w hw => ParseD_ok a b l hv w) ?_; rintro _ _ ⟨AG, cG, rfl, rfl⟩)
      refine E.OW.pure rfl rfl rfl (E.PV.move rfl rfl) ?_
      refine E.OW.pure rfl rfl rfl (E.PV.extract rfl rfl rfl) ?_
      refine E.OW.pure rfl rfl rfl (E.PV.extract rfl rfl rfl) ?_
      refine E.OW.alloc (in48.zr) rfl rfl rfl rfl rfl (fun B2 => ?_)
      refine E.OW.store (i := 0) in48.size rfl rfl rfl rfl rfl rfl rfl rfl rfl ?_
      refine E.OW.pure rfl rfl rfl (E.PV.assign rfl rfl) ?_
      refine E.OW.nil ?_
      refine E.then_n ?_
      refine E.CW.seq ?_
      refine E.CW.seq ?_
      refine E.CW.region ?_
      refine E.OW.pure rfl rfl rfl (E.PV.move rfl rfl) ?_
      refine E.OW.pure rfl rfl rfl (E.PV.neq rfl rfl rfl) ?_
      refine E.OW.pure rfl rfl rfl (E.PV.move rfl rfl) ?_
      all_goals (refine E.OW.put 31 (.bool false) (v := .bool false) rfl rfl ?_)
      all_goals (refine E.OW.pure rfl rfl rfl (E.PV.move rfl rfl) ?_)
      all_goals (refine E.OW.pure rfl rfl rfl (E.PV.neq rfl rfl rfl) ?_)
      all_goals (refine E.OW.pure rfl rfl rfl (E.PV.pick_f rfl rfl rfl) ?_)
      all_goals (refine E.OW.pure rfl rfl rfl (E.PV.move rfl rfl) ?_)
      all_goals (refine E.OW.put 35 (.bool false) (v := .bool false) rfl rfl ?_)
      all_goals (refine E.OW.pure rfl rfl rfl (E.PV.loads (i := 2) is48 rfl rfl rfl rfl) ?_)
      all_goals (refine E.OW.pure rfl rfl rfl (E.PV.loads (i := 0) is48 rfl rfl rfl rfl) ?_)
      all_goals ((refine E.OW.call nm49 rfl rfl rfl rfl rfl rfl _ (fun w hw => rSame_ok _ _ _ _ _ _ _ _ _ _ w ?_ ?_) ?_; (focus (refine hw.rd ?_; assumption)); (focus (exact hw.rdrow (i := 1) rfl)); rintro _ _ ⟨rfl, rfl⟩))
      all_goals (refine E.OW.pure rfl rfl rfl (E.PV.not rfl rfl) ?_)
      all_goals (refine E.OW.pure rfl rfl rfl (E.PV.pick_f rfl rfl rfl) ?_)
      all_goals (refine E.OW.pure rfl rfl rfl (E.PV.move rfl rfl) ?_)
      all_goals (refine E.OW.split 41 rfl (fun hc => ?_) (fun hc => ?_) <;> (try simp only [E.b0, E.b1, E.b2, E.b3, E.b4, E.b5, E.b6, E.b7, E.b8, E.b9, E.b10, E.b11, E.b12, E.b13, E.b14, E.b15, E.b16, E.b17, E.b18, E.b19, E.b20, reduceCtorEq] at hc) <;> (try (exfalso; first | assumption | contradiction | omega)))
      all_goals (refine E.OW.pure rfl rfl rfl (E.PV.move rfl rfl) ?_)
      all_goals (refine E.OW.pure rfl rfl rfl (E.PV.slen Try.underlying9 rfl rfl) ?_)
      all_goals (refine E.OW.pure rfl rfl rfl (E.PV.fieldAddr fa48_0 rfl rfl) ?_)
      all_goals (refine E.OW.pure rfl rfl rfl (E.PV.load (i := 2) na3 rfl rfl rfl rfl) ?_)
      all_goals (refine E.OW.pure rfl rfl rfl (E.PV.add_i64 rfl rfl rfl ?_) ?_; (focus ((first | omega | (have := Fl.mulb (a := a + 1) (b := b) (by omega) (by omega); omega)))))
      all_goals (refine E.OW.pure rfl rfl rfl (E.PV.fieldAddr fa48_1 rfl rfl) ?_)
      all_goals (refine E.OW.pure rfl rfl rfl (E.PV.load (i := 2) na3 rfl rfl rfl rfl) ?_)
      all_goals (refine E.OW.pure rfl rfl rfl (E.PV.mul_i64 rfl rfl rfl ?_) ?_; (focus ((first | omega | (have := Fl.mulb (a := a + 1) (b := b) (by omega) (by omega); omega)))))
      all_goals (refine E.OW.pure rfl rfl rfl (E.PV.neq rfl rfl rfl) ?_)
      all_goals (refine E.OW.pure rfl rfl rfl (E.PV.pick_f rfl rfl rfl) ?_)
      all_goals (
        refine E.OW.nil ?_
        refine E.then_n ?_
        refine E.CW.cond rfl (fun hc => ?_) (fun hc => ?_)
        · simp only [E.b0, E.b1, E.b2, E.b3, E.b4, E.b5, E.b6, E.b7, E.b8, E.b9, E.b10, E.b11, E.b12, E.b13, E.b14, E.b15, E.b16, E.b17, E.b18, E.b19, E.b20, reduceCtorEq] at hc
          all_goals (exfalso; contradiction)
        · simp only [E.b0, E.b1, E.b2, E.b3, E.b4, E.b5, E.b6, E.b7, E.b8, E.b9, E.b10, E.b11, E.b12, E.b13, E.b14, E.b15, E.b16, E.b17, E.b18, E.b19, E.b20, reduceCtorEq] at hc
          all_goals (
            refine E.CW.skip ?_
            refine E.then_n ?_
            refine E.CW.seq ?_
            refine E.CW.seq ?_
            refine E.CW.region ?_
            refine E.OW.pure rfl rfl rfl (E.PV.assign rfl rfl) ?_
            refine E.OW.nil ?_
            refine E.then_n ?_
            refine E.CW.block ?_
            refine E.CW.sels [1, 0, 0] rfl ?_
            refine E.CW.loopk [1, 2, 5, 6, 8] 1 rfl rfl (fun mm mods Hm => ∃ k : Nat, ∃ ys : List UInt8, mm = l.length - k ∧ mods = [(10, .int .i64 k)] ∧ Hm = [E.HP.row 5 1 AG l.length cG (E.u8s ys)] ∧ (k ≤ l.length ∧ ys.length = l.length)) (l.length) ?_ ?_
            · exact ⟨[(10, _)], (by repeat (first | exact E.cov_nil | refine ⟨rfl, ?_⟩)), 0, l, rfl, rfl, rfl, by omega, rfl⟩
            · rintro _ _ _ ⟨k, ys, rfl, rfl, rfl, hk, hys⟩
              refine E.CW.seq ?_
              refine E.CW.seq ?_
              refine E.CW.region ?_
              refine E.OW.pure rfl rfl rfl (E.PV.move rfl rfl) ?_
              refine E.OW.pure rfl rfl rfl (E.PV.fieldAddr fa48_2 rfl rfl) ?_
              refine E.OW.pure rfl rfl rfl (E.PV.load (i := 1) na22 rfl rfl rfl rfl) ?_
              refine E.OW.pure rfl rfl rfl (E.PV.len Try.underlying22 rfl rfl) ?_
              refine E.OW.pure rfl rfl rfl (E.PV.lss rfl rfl rfl) ?_
              refine E.OW.nil ?_
              refine E.then_n ?_
              refine E.CW.cond rfl (fun hc => ?_) (fun hc => ?_)
              · simp only [E.b0, E.b1, E.b2, E.b3, E.b4, E.b5, E.b6, E.b7, E.b8, E.b9, E.b10, E.b11, E.b12, E.b13, E.b14, E.b15, E.b16, E.b17, E.b18, E.b19, E.b20, reduceCtorEq] at hc
                all_goals (
                  refine E.CW.skip ?_
                  refine E.then_n ?_
                  refine E.CW.seq ?_
                  refine E.CW.block ?_
                  refine E.CW.region ?_
                  refine E.OW.pure rfl rfl rfl (E.PV.fieldAddr fa48_2 rfl rfl) ?_
                  refine E.OW.pure rfl rfl rfl (E.PV.load (i := 1) na22 rfl rfl rfl rfl) ?_
                  refine E.OW.pure rfl rfl rfl (E.PV.move rfl rfl) ?_
                  refine E.OW.pure rfl rfl rfl (E.PV.indexAddr1 (E.rdr (i := 0) rfl) Try.underlying22 in5 rfl rfl rfl rfl ?_ ?_) ?_; (focus (first | (simp; done) | (simp; omega))); (focus (omega))
                  refine E.OW.pure rfl rfl rfl (E.PV.load_u8 (E.rdr (i := 0) rfl) na5 rfl rfl ?_) ?_; (focus (omega))
                  refine E.OW.pure rfl rfl rfl (E.PV.xor_u8 (q := 1) rfl rfl rfl) ?_
                  refine E.OW.pure rfl rfl rfl (E.PV.indexAddr1 (E.rdr (i := 0) rfl) Try.underlying22 in5 rfl rfl rfl rfl ?_ ?_) ?_; (focus (first | (simp; done) | (simp; omega))); (focus (omega))
                  refine E.OW.store_u8 (i := 0) in5.size rfl rfl rfl rfl rfl rfl ?_ ?_; (focus (omega))
                  refine E.OW.nil ?_
                  refine E.blk_n ?_
                  refine E.then_n ?_
                  refine E.CW.region ?_
                  refine E.OW.pure rfl rfl rfl (E.PV.move rfl rfl) ?_
                  refine E.OW.pure rfl rfl rfl (E.PV.add_i64 rfl rfl rfl ?_) ?_; (focus ((first | omega | (have := Fl.mulb (a := a + 1) (b := b) (by omega) (by omega); omega))))
                  refine E.OW.pure rfl rfl rfl (E.PV.assign rfl rfl) ?_
                  refine E.OW.nil ?_
                  refine E.then_nf ?_
                  refine ⟨_, [(10, _)], [0, 0, 0], _, ?_, by repeat (first | exact E.cov_nil | refine ⟨rfl, ?_⟩), rfl, k + 1, _, rfl, rfl, rfl, by omega, by simp; omega⟩
                  omega)
              · simp only [E.b0, E.b1, E.b2, E.b3, E.b4, E.b5, E.b6, E.b7, E.b8, E.b9, E.b10, E.b11, E.b12, E.b13, E.b14, E.b15, E.b16, E.b17, E.b18, E.b19, E.b20, reduceCtorEq] at hc
                all_goals (
                  refine E.CW.exit ?_
                  refine E.then_x ?_
                  refine E.then_x ?_
                  refine E.blk_eq ?_
                  refine E.then_n ?_
                  refine E.CW.seq ?_
                  refine E.CW.region ?_
                  refine E.OW.pure rfl rfl rfl (E.PV.move rfl rfl) ?_
                  (refine E.OW.call nm52 rfl rfl rfl rfl rfl rfl _ (fun w hw => ParseD_ok a b l hv w) ?_; rintro _ _ ⟨_, _, rfl, rfl⟩)
                  refine E.OW.pure rfl rfl rfl (E.PV.move rfl rfl) ?_
                  refine E.OW.pure rfl rfl rfl (E.PV.extract rfl rfl rfl) ?_
                  refine E.OW.pure rfl rfl rfl (E.PV.extract rfl rfl rfl) ?_
                  refine E.OW.alloc (in48.zr) rfl rfl rfl rfl rfl (fun B3 => ?_)
                  refine E.OW.store (i := 0) in48.size rfl rfl rfl rfl rfl rfl rfl rfl rfl ?_
                  refine E.OW.pure rfl rfl rfl (E.PV.assign rfl rfl) ?_
                  refine E.OW.nil ?_
                  refine E.then_n ?_
                  refine E.CW.seq ?_
                  refine E.CW.region ?_
                  refine E.OW.pure rfl rfl rfl (E.PV.move rfl rfl) ?_
                  refine E.OW.pure rfl rfl rfl (E.PV.neq rfl rfl rfl) ?_
                  refine E.OW.pure rfl rfl rfl (E.PV.move rfl rfl) ?_
                  all_goals (refine E.OW.put 73 (.bool false) (v := .bool false) rfl rfl ?_)
                  all_goals (refine E.OW.pure rfl rfl rfl (E.PV.loads (i := 4) is48 rfl rfl rfl rfl) ?_)
                  all_goals (refine E.OW.pure rfl rfl rfl (E.PV.loads (i := 0) is48 rfl rfl rfl rfl) ?_)
                  all_goals ((refine E.OW.call nm49 rfl rfl rfl rfl rfl rfl _ (fun w hw => rSame_ok _ _ _ _ _ _ _ _ _ _ w ?_ ?_) ?_; (focus (refine hw.rd ?_; assumption)); (focus (exact hw.rdrow (i := 1) rfl)); rintro _ _ ⟨rfl, rfl⟩))
                  all_goals (refine E.OW.pure rfl rfl rfl (E.PV.not rfl rfl) ?_)
                  all_goals (refine E.OW.pure rfl rfl rfl (E.PV.pick_f rfl rfl rfl) ?_)
                  all_goals (
                    refine E.OW.nil ?_
                    refine E.then_n ?_
                    refine E.CW.cond rfl (fun hc => ?_) (fun hc => ?_)
                    · simp only [E.b0, E.b1, E.b2, E.b3, E.b4, E.b5, E.b6, E.b7, E.b8, E.b9, E.b10, E.b11, E.b12, E.b13, E.b14, E.b15, E.b16, E.b17, E.b18, E.b19, E.b20, reduceCtorEq] at hc
                      all_goals (exfalso; contradiction)
                    · simp only [E.b0, E.b1, E.b2, E.b3, E.b4, E.b5, E.b6, E.b7, E.b8, E.b9, E.b10, E.b11, E.b12, E.b13, E.b14, E.b15, E.b16, E.b17, E.b18, E.b19, E.b20, reduceCtorEq] at hc
                      all_goals (
                        refine E.CW.skip ?_
                        refine E.then_n ?_
                        refine E.CW.seq ?_
                        refine E.CW.region ?_
                        refine E.OW.pure rfl rfl rfl (E.PV.move rfl rfl) ?_
                        (refine E.OW.call nm52 rfl rfl rfl rfl rfl rfl _ (fun w hw => Parse_ok _ w ?_) ?_; (focus (assumption)); rintro _ _ ⟨_, _, rfl, rfl⟩)
                        refine E.OW.pure rfl rfl rfl (E.PV.move rfl rfl) ?_
                        refine E.OW.pure rfl rfl rfl (E.PV.extract rfl rfl rfl) ?_
                        refine E.OW.pure rfl rfl rfl (E.PV.extract rfl rfl rfl) ?_
                        refine E.OW.alloc (in48.zr) rfl rfl rfl rfl rfl (fun B4 => ?_)
                        refine E.OW.store (i := 0) in48.size rfl rfl rfl rfl rfl rfl rfl rfl rfl ?_
                        refine E.OW.pure rfl rfl rfl (E.PV.assign rfl rfl) ?_
                        refine E.OW.nil ?_
                        refine E.then_n ?_
                        refine E.CW.seq ?_
                        refine E.CW.seq ?_
                        refine E.CW.region ?_
                        refine E.OW.pure rfl rfl rfl (E.PV.move rfl rfl) ?_
                        refine E.OW.pure rfl rfl rfl (E.PV.neq rfl rfl rfl) ?_
                        refine E.OW.nil ?_
                        refine E.then_n ?_
                        refine E.CW.cond rfl (fun hc => ?_) (fun hc => ?_)
                        · simp only [E.b0, E.b1, E.b2, E.b3, E.b4, E.b5, E.b6, E.b7, E.b8, E.b9, E.b10, E.b11, E.b12, E.b13, E.b14, E.b15, E.b16, E.b17, E.b18, E.b19, E.b20, reduceCtorEq] at hc
                          all_goals (
                            refine E.CW.seq ?_
                            have hpe := @Fl.parse_err s
                            refine E.CW.region ?_
                            refine E.OW.pure rfl rfl rfl (E.PV.move rfl rfl) ?_
                            refine E.OW.pure rfl rfl rfl (E.PV.move rfl rfl) ?_
                            all_goals (refine E.OW.put 87 (.bool true) (v := .bool true) rfl rfl ?_)
                            all_goals (refine E.OW.pure rfl rfl rfl (E.PV.move rfl rfl) ?_)
                            all_goals (refine E.OW.pure rfl rfl rfl (E.PV.eql rfl rfl rfl) ?_)
                            all_goals (refine E.OW.pure rfl rfl rfl (E.PV.move rfl rfl) ?_)
                            all_goals (refine E.OW.split 90 rfl (fun hc => ?_) (fun hc => ?_) <;> (try simp only [E.b0, E.b1, E.b2, E.b3, E.b4, E.b5, E.b6, E.b7, E.b8, E.b9, E.b10, E.b11, E.b12, E.b13, E.b14, E.b15, E.b16, E.b17, E.b18, E.b19, E.b20, reduceCtorEq] at hc) <;> (try (exfalso; first | assumption | contradiction | omega)))
                            all_goals (first | (refine E.OW.off rfl rfl rfl ?_) | (refine E.OW.pure rfl rfl rfl (E.PV.move rfl rfl) ?_))
                            all_goals (first | (refine E.OW.off rfl rfl rfl ?_) | (refine E.OW.pure rfl rfl rfl (E.PV.eql rfl rfl rfl) ?_))
                            all_goals (first | (refine E.OW.pure rfl rfl rfl (E.PV.pick_t rfl rfl rfl) ?_) | (refine E.OW.pure rfl rfl rfl (E.PV.pick_f rfl rfl rfl) ?_))
                            all_goals (refine E.OW.pure rfl rfl rfl (E.PV.pick_t rfl rfl rfl) ?_)
                            all_goals (refine E.OW.pure rfl rfl rfl (E.PV.assign rfl rfl) ?_)
                            all_goals (
                              refine E.OW.nil ?_
                              refine E.then_n ?_
                              refine E.CW.ret ?_
                              refine E.then_ret ?_
                              refine E.KR.one [] Try.results9 rfl rfl ?_
                              exact ⟨by first | rfl | (simp; done) | (simp; omega), rfl⟩))
                        · simp only [E.b0, E.b1, E.b2, E.b3, E.b4, E.b5, E.b6, E.b7, E.b8, E.b9, E.b10, E.b11, E.b12, E.b13, E.b14, E.b15, E.b16, E.b17, E.b18, E.b19, E.b20, reduceCtorEq] at hc
                          all_goals (
                            refine E.CW.skip ?_
                            refine E.then_n ?_
                            refine E.CW.seq ?_
                            have hpe : Fl.parse s = (((Fl.parse s).1.1, (Fl.parse s).1.2.1, (Fl.parse s).1.2.2), 0) := Prod.ext rfl (by assumption)
                            obtain ⟨hpv, hpd⟩ := Fl.draw_parse hpe
                            have hcf := Fl.checkF_zero.2 hpv
                            have hp64 := Fl.validF_len hpv
                            have hdd : Fl.draw (Fl.parse s).1.1 (Fl.parse s).1.2.1 (Fl.parse s).1.2.2 = (s, 0) := (if_pos hpv).trans (by rw [hpd])
                            refine E.CW.region ?_
                            refine E.OW.pure rfl rfl rfl (E.PV.loads (i := 0) is48 rfl rfl rfl rfl) ?_
                            (refine E.OW.call nm50 rfl rfl rfl rfl rfl rfl _ (fun w hw => Draw_ok _ _ _ _ _ w ?_ ?_) ?_; (focus (omega)); (focus (exact hw.rdrow (i := 1) rfl)); rintro _ _ ⟨rfl, rfl⟩)
                            refine E.OW.pure rfl rfl rfl (E.PV.move rfl rfl) ?_
                            refine E.OW.pure rfl rfl rfl (E.PV.extract rfl rfl rfl) ?_
                            refine E.OW.pure rfl rfl rfl (E.PV.extract rfl rfl rfl) ?_
                            refine E.OW.pure rfl rfl rfl (E.PV.assign rfl rfl) ?_
                            refine E.OW.pure rfl rfl rfl (E.PV.assign rfl rfl) ?_
                            refine E.OW.nil ?_
                            refine E.then_n ?_
                            refine E.CW.seq ?_
                            refine E.CW.put 14 (E.sv s) rfl (by rw [hdd]; rfl) ?_
                            refine E.CW.put 15 (.int .i64 0) rfl (by rw [hdd]; rfl) ?_
                            refine E.CW.region ?_
                            refine E.OW.pure rfl rfl rfl (E.PV.move rfl rfl) ?_
                            refine E.OW.pure rfl rfl rfl (E.PV.move rfl rfl) ?_
                            all_goals (refine E.OW.put 101 (.bool true) (v := .bool true) rfl rfl ?_)
                            all_goals (refine E.OW.pure rfl rfl rfl (E.PV.loads (i := 0) is48 rfl rfl rfl rfl) ?_)
                            all_goals ((refine E.OW.call nm42 rfl rfl rfl rfl rfl rfl _ (fun w hw => Check_ok _ _ _ _ _ w ?_ ?_) ?_; (focus (omega)); (focus (exact hw.rdrow (i := 1) rfl)); rintro _ _ ⟨rfl, rfl⟩))
                            all_goals (refine E.OW.pure rfl rfl rfl (E.PV.eql rfl rfl rfl) ?_)
                            all_goals (refine E.OW.pure rfl rfl rfl (E.PV.pick_t rfl rfl rfl) ?_)
                            all_goals (refine E.OW.pure rfl rfl rfl (E.PV.move rfl rfl) ?_)
                            all_goals (refine E.OW.put 106 (.bool true) rfl (congrArg Value.bool ?_) ?_; (focus ((simp only [E.b0, E.b1, E.b2, E.b3, E.b4, E.b5, E.b6, E.b7, E.b8, E.b9, E.b10, E.b11, E.b12, E.b13, E.b14, E.b15, E.b16, E.b17, E.b18, E.b19, E.b20]; omega))))
                            all_goals (refine E.OW.pure rfl rfl rfl (E.PV.move rfl rfl) ?_)
                            all_goals (refine E.OW.pure rfl rfl rfl (E.PV.eql rfl rfl rfl) ?_)
                            all_goals (refine E.OW.pure rfl rfl rfl (E.PV.pick_t rfl rfl rfl) ?_)
                            all_goals (refine E.OW.pure rfl rfl rfl (E.PV.move rfl rfl) ?_)
                            all_goals (refine E.OW.put 110 (.bool true) (v := .bool true) rfl rfl ?_)
                            all_goals (refine E.OW.pure rfl rfl rfl (E.PV.move rfl rfl) ?_)
                            all_goals (refine E.OW.pure rfl rfl rfl (E.PV.move rfl rfl) ?_)
                            all_goals (refine E.OW.pure rfl rfl rfl (E.PV.seq rfl rfl rfl) ?_)
                            all_goals (refine E.OW.pure rfl rfl rfl (E.PV.pick_t rfl rfl rfl) ?_)
                            all_goals (refine E.OW.pure rfl rfl rfl (E.PV.assign rfl rfl) ?_)
                            all_goals (
                              refine E.OW.nil ?_
                              refine E.then_n ?_
                              refine E.CW.ret ?_
                              refine E.KR.one [] Try.results9 rfl rfl ?_
                              exact ⟨by first | rfl | (simp; done) | (simp; omega), rfl⟩))))))))
  · skip
    all_goals (
      refine E.CW.skip ?_
      refine E.then_n ?_
      refine E.CW.seq ?_
      refine E.CW.region ?_
      refine E.OW.pure rfl rfl rfl (E.PV.move rfl rfl) ?_
      (refine E.OW.call nm52 rfl rfl rfl rfl rfl rfl _ (fun w hw => Parse_ok _ w ?_) ?_; (focus (assumption)); rintro _ _ ⟨_, _, rfl, rfl⟩)
      refine E.OW.pure rfl rfl rfl (E.PV.move rfl rfl) ?_
      refine E.OW.pure rfl rfl rfl (E.PV.extract rfl rfl rfl) ?_
      refine E.OW.pure rfl rfl rfl (E.PV.extract rfl rfl rfl) ?_
      refine E.OW.alloc (in48.zr) rfl rfl rfl rfl rfl (fun B5 => ?_)
      refine E.OW.store (i := 0) in48.size rfl rfl rfl rfl rfl rfl rfl rfl rfl ?_
      refine E.OW.pure rfl rfl rfl (E.PV.assign rfl rfl) ?_
      refine E.OW.nil ?_
      refine E.then_n ?_
      refine E.CW.seq ?_
      refine E.CW.seq ?_
      refine E.CW.region ?_
      refine E.OW.pure rfl rfl rfl (E.PV.move rfl rfl) ?_
      refine E.OW.pure rfl rfl rfl (E.PV.neq rfl rfl rfl) ?_
      refine E.OW.nil ?_
      refine E.then_n ?_
      refine E.CW.cond rfl (fun hc => ?_) (fun hc => ?_)
      · simp only [E.b0, E.b1, E.b2, E.b3, E.b4, E.b5, E.b6, E.b7, E.b8, E.b9, E.b10, E.b11, E.b12, E.b13, E.b14, E.b15, E.b16, E.b17, E.b18, E.b19, E.b20, reduceCtorEq] at hc
        all_goals (
          refine E.CW.seq ?_
          have hpe := @Fl.parse_err s
          refine E.CW.region ?_
          refine E.OW.pure rfl rfl rfl (E.PV.move rfl rfl) ?_
          refine E.OW.pure rfl rfl rfl (E.PV.move rfl rfl) ?_
          all_goals (refine E.OW.put 87 (.bool true) (v := .bool true) rfl rfl ?_)
          all_goals (refine E.OW.pure rfl rfl rfl (E.PV.move rfl rfl) ?_)
          all_goals (refine E.OW.pure rfl rfl rfl (E.PV.eql rfl rfl rfl) ?_)
          all_goals (refine E.OW.pure rfl rfl rfl (E.PV.move rfl rfl) ?_)
          all_goals (refine E.OW.split 90 rfl (fun hc => ?_) (fun hc => ?_) <;> (try simp only [E.b0, E.b1, E.b2, E.b3, E.b4, E.b5, E.b6, E.b7, E.b8, E.b9, E.b10, E.b11, E.b12, E.b13, E.b14, E.b15, E.b16, E.b17, E.b18, E.b19, E.b20, reduceCtorEq] at hc) <;> (try (exfalso; first | assumption | contradiction | omega)))
          all_goals (first | (refine E.OW.off rfl rfl rfl ?_) | (refine E.OW.pure rfl rfl rfl (E.PV.move rfl rfl) ?_))
          all_goals (first | (refine E.OW.off rfl rfl rfl ?_) | (refine E.OW.pure rfl rfl rfl (E.PV.eql rfl rfl rfl) ?_))
          all_goals (first | (refine E.OW.pure rfl rfl rfl (E.PV.pick_t rfl rfl rfl) ?_) | (refine E.OW.pure rfl rfl rfl (E.PV.pick_f rfl rfl rfl) ?_))
          all_goals (refine E.OW.pure rfl rfl rfl (E.PV.pick_t rfl rfl rfl) ?_)
          all_goals (refine E.OW.pure rfl rfl rfl (E.PV.assign rfl rfl) ?_)
          all_goals (
            refine E.OW.nil ?_
            refine E.then_n ?_
            refine E.CW.ret ?_
            refine E.then_ret ?_
            refine E.KR.one [] Try.results9 rfl rfl ?_
            exact ⟨by first | rfl | (simp; done) | (simp; omega), rfl⟩))
      · simp only [E.b0, E.b1, E.b2, E.b3, E.b4, E.b5, E.b6, E.b7, E.b8, E.b9, E.b10, E.b11, E.b12, E.b13, E.b14, E.b15, E.b16, E.b17, E.b18, E.b19, E.b20, reduceCtorEq] at hc
        all_goals (
          refine E.CW.skip ?_
          refine E.then_n ?_
          refine E.CW.seq ?_
          have hpe : Fl.parse s = (((Fl.parse s).1.1, (Fl.parse s).1.2.1, (Fl.parse s).1.2.2), 0) := Prod.ext rfl (by assumption)
          obtain ⟨hpv, hpd⟩ := Fl.draw_parse hpe
          have hcf := Fl.checkF_zero.2 hpv
          have hp64 := Fl.validF_len hpv
          have hdd : Fl.draw (Fl.parse s).1.1 (Fl.parse s).1.2.1 (Fl.parse s).1.2.2 = (s, 0) := (if_pos hpv).trans (by rw [hpd])
          refine E.CW.region ?_
          refine E.OW.pure rfl rfl rfl (E.PV.loads (i := 0) is48 rfl rfl rfl rfl) ?_
          (refine E.OW.call nm50 rfl rfl rfl rfl rfl rfl _ (fun w hw => Draw_ok _ _ _ _ _ w ?_ ?_) ?_; (focus (omega)); (focus (exact hw.rdrow (i := 1) rfl)); rintro _ _ ⟨rfl, rfl⟩)
          refine E.OW.pure rfl rfl rfl (E.PV.move rfl rfl) ?_
          refine E.OW.pure rfl rfl rfl (E.PV.extract rfl rfl rfl) ?_
          refine E.OW.pure rfl rfl rfl (E.PV.extract rfl rfl rfl) ?_
          refine E.OW.pure rfl rfl rfl (E.PV.assign rfl rfl) ?_
          refine E.OW.pure rfl rfl rfl (E.PV.assign rfl rfl) ?_
          refine E.OW.nil ?_
          refine E.then_n ?_
          refine E.CW.seq ?_
          refine E.CW.put 14 (E.sv s) rfl (by rw [hdd]; rfl) ?_
          refine E.CW.put 15 (.int .i64 0) rfl (by rw [hdd]; rfl) ?_
          refine E.CW.region ?_
          refine E.OW.pure rfl rfl rfl (E.PV.move rfl rfl) ?_
          refine E.OW.pure rfl rfl rfl (E.PV.move rfl rfl) ?_
          all_goals (refine E.OW.put 101 (.bool true) (v := .bool true) rfl rfl ?_)
          all_goals (refine E.OW.pure rfl rfl rfl (E.PV.loads (i := 0) is48 rfl rfl rfl rfl) ?_)
          all_goals ((refine E.OW.call nm42 rfl rfl rfl rfl rfl rfl _ (fun w hw => Check_ok _ _ _ _ _ w ?_ ?_) ?_; (focus (omega)); (focus (exact hw.rdrow (i := 1) rfl)); rintro _ _ ⟨rfl, rfl⟩))
          all_goals (refine E.OW.pure rfl rfl rfl (E.PV.eql rfl rfl rfl) ?_)
          all_goals (refine E.OW.pure rfl rfl rfl (E.PV.pick_t rfl rfl rfl) ?_)
          all_goals (refine E.OW.pure rfl rfl rfl (E.PV.move rfl rfl) ?_)
          all_goals (refine E.OW.put 106 (.bool true) rfl (congrArg Value.bool ?_) ?_; (focus ((simp only [E.b0, E.b1, E.b2, E.b3, E.b4, E.b5, E.b6, E.b7, E.b8, E.b9, E.b10, E.b11, E.b12, E.b13, E.b14, E.b15, E.b16, E.b17, E.b18, E.b19, E.b20]; omega))))
          all_goals (refine E.OW.pure rfl rfl rfl (E.PV.move rfl rfl) ?_)
          all_goals (refine E.OW.pure rfl rfl rfl (E.PV.eql rfl rfl rfl) ?_)
          all_goals (refine E.OW.pure rfl rfl rfl (E.PV.pick_t rfl rfl rfl) ?_)
          all_goals (refine E.OW.pure rfl rfl rfl (E.PV.move rfl rfl) ?_)
          all_goals (refine E.OW.put 110 (.bool true) (v := .bool true) rfl rfl ?_)
          all_goals (refine E.OW.pure rfl rfl rfl (E.PV.move rfl rfl) ?_)
          all_goals (refine E.OW.pure rfl rfl rfl (E.PV.move rfl rfl) ?_)
          all_goals (refine E.OW.pure rfl rfl rfl (E.PV.seq rfl rfl rfl) ?_)
          all_goals (refine E.OW.pure rfl rfl rfl (E.PV.pick_t rfl rfl rfl) ?_)
          all_goals (refine E.OW.pure rfl rfl rfl (E.PV.assign rfl rfl) ?_)
          all_goals (
            refine E.OW.nil ?_
            refine E.then_n ?_
            refine E.CW.ret ?_
            refine E.KR.one [] Try.results9 rfl rfl ?_
            exact ⟨by first | rfl | (simp; done) | (simp; omega), rfl⟩)))
end Go.Proofs.Ytbofflmmgokkhaa
