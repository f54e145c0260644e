/- Walks (printed by gen.py). -/
import Derived.Test.YtbdfljgnlendjaaG4
namespace Go.Proofs.Ytbdfljgnlendjaa
open Go Go.RowKit
set_option linter.unusedSimpArgs false
set_option linter.unusedVariables false

set_option maxRecDepth 100000 in
theorem ConfigProjects_ok (g : E.Cfg) (t : Int) (w0 : World) (hg : g.rd w0 (E.Old w0)) (hgf : g.q.fit) :
    Calls Try.prog 6 #[g.v, .int .i64 t] w0 (E.Post w0 (E.Old w0) fun v Hn => v = .bool true ∧ Hn = []) := by
  obtain ⟨hX1, hX2, hX3, hX4⟩ := id hg
  have hgl := E.Cfg.fit_len hgf
  refine E.calls_of (vs := [g.v, .int .i64 t]) (H := []) Try.func6 Try.ntmps6 rfl rfl (E.HA.start w0) ?_
  refine E.CW.seq ?_
  refine E.CW.region ?_
  refine E.OW.box rfl rfl rfl rfl rfl rfl (fun B1 => ?_)
  refine E.OW.pure rfl rfl rfl (E.PV.assign rfl rfl) ?_
  refine E.OW.nil ?_
  refine E.then_n ?_
  refine E.CW.seq ?_
  refine E.CW.region ?_
  refine E.OW.pure rfl rfl rfl (E.PV.loads (i := 0) is28 rfl rfl rfl rfl) ?_
  (refine E.OW.call nm21 rfl rfl rfl rfl rfl rfl _ (fun w hw => TwinC_ok _ w ?_ ?_) ?_; (focus (refine hw.rdC ?_; assumption)); (focus (assumption)); rintro _ _ ⟨gT, rfl, rfl, hgT⟩)
  refine E.OW.alloc (in28.zr) rfl rfl rfl rfl rfl (fun B2 => ?_)
  refine E.OW.store (i := 0) in28.size rfl rfl rfl rfl rfl rfl rfl rfl rfl ?_
  refine E.OW.nil ?_
  refine E.then_n ?_
  refine E.CW.seq ?_
  have hTf : gT.q.fit := by rw [hgT]; exact hgf
  refine E.CW.region ?_
  refine E.OW.pure rfl rfl rfl (E.PV.loads (i := 0) is28 rfl rfl rfl rfl) ?_
  refine E.OW.pure rfl rfl rfl (E.PV.move rfl rfl) ?_
  (refine E.OW.call nm37 rfl rfl rfl rfl rfl rfl _ (fun w hw => On_ok _ _ w ?_ ?_) ?_; (focus (exact hw.rdcfg (i := 1) rfl)); (focus (assumption)); rintro _ _ ⟨gO, rfl, rfl, hgO⟩)
  refine E.OW.pure rfl rfl rfl (E.PV.move rfl rfl) ?_
  refine E.OW.pure rfl rfl rfl (E.PV.extract rfl rfl rfl) ?_
  refine E.OW.pure rfl rfl rfl (E.PV.extract rfl rfl rfl) ?_
  refine E.OW.alloc (in28.zr) rfl rfl rfl rfl rfl (fun B3 => ?_)
  refine E.OW.store (i := 0) in28.size rfl rfl rfl rfl rfl rfl rfl rfl rfl ?_
  refine E.OW.pure rfl rfl rfl (E.PV.assign rfl rfl) ?_
  refine E.OW.nil ?_
  refine E.then_n ?_
  refine E.CW.seq ?_
  refine E.CW.region ?_
  refine E.OW.pure rfl rfl rfl (E.PV.loads (i := 4) is28 rfl rfl rfl rfl) ?_
  refine E.OW.pure rfl rfl rfl (E.PV.move rfl rfl) ?_
  (refine E.OW.call nm38 rfl rfl rfl rfl rfl rfl _ (fun w hw => rPj_ok _ _ w ?_ ?_) ?_; (focus (refine hw.rdC ?_; assumption)); (focus (assumption)); rintro _ _ ⟨gP, rfl, rfl, hgP⟩)
  refine E.OW.pure rfl rfl rfl (E.PV.move rfl rfl) ?_
  refine E.OW.pure rfl rfl rfl (E.PV.extract rfl rfl rfl) ?_
  refine E.OW.pure rfl rfl rfl (E.PV.extract rfl rfl rfl) ?_
  refine E.OW.alloc (in28.zr) rfl rfl rfl rfl rfl (fun B4 => ?_)
  refine E.OW.store (i := 0) in28.size rfl rfl rfl rfl rfl rfl rfl rfl rfl ?_
  refine E.OW.pure rfl rfl rfl (E.PV.assign rfl rfl) ?_
  refine E.OW.nil ?_
  refine E.then_n ?_
  refine E.CW.seq ?_
  refine E.CW.seq ?_
  have hOf : gO.q.fit := by rw [hgO]; exact Cf.onlyR_fit hTf
  have hPf : gP.q.fit := by rw [hgP]; exact Cf.onlyR_fit hgf
  have hol := E.Cfg.fit_len hOf
  refine E.CW.region ?_
  refine E.OW.pure rfl rfl rfl (E.PV.loads (i := 2) is28 rfl rfl rfl rfl) ?_
  refine E.OW.pure rfl rfl rfl (E.PV.loads (i := 0) is28 rfl rfl rfl rfl) ?_
  (refine E.OW.call nm20 rfl rfl rfl rfl rfl rfl _ (fun w hw => rSameC_ok _ _ w ?_ ?_ ?_ ?_) ?_; (focus (exact hw.rdcfg (i := 3) rfl)); (focus (exact hw.rdcfg (i := 1) rfl)); (focus (assumption)); (focus (assumption)); rintro _ _ ⟨rfl, rfl⟩)
  refine E.OW.pure rfl rfl rfl (E.PV.not rfl rfl) ?_
  refine E.OW.pure rfl rfl rfl (E.PV.move rfl rfl) ?_
  all_goals (refine E.OW.put 35 (.bool false) rfl (congrArg Value.bool ?_) ?_; (focus ((rw [hgO, hgP, hgT]; simp; done))))
  all_goals (refine E.OW.pure rfl rfl rfl (E.PV.move rfl rfl) ?_)
  all_goals (refine E.OW.pure rfl rfl rfl (E.PV.move rfl rfl) ?_)
  all_goals (refine E.OW.pure rfl rfl rfl (E.PV.neq rfl rfl rfl) ?_)
  all_goals (refine E.OW.pure rfl rfl rfl (E.PV.pick_f rfl rfl rfl) ?_)
  all_goals (
    refine E.OW.nil ?_
    refine E.then_n ?_
    refine E.CW.cond rfl (fun hc => ?_) (fun hc => ?_)
    · simp only [E.b0, E.b1, E.b2, E.b3, E.b4, E.b5, E.b6, E.b7, E.b8, E.b9, E.b10, E.b11, E.b12, E.b13, E.b14, E.b15, E.b16, E.b17, E.b18, E.b19, E.b20, reduceCtorEq] at hc
      all_goals (exfalso; (rw [hgT] at hc; exact hc rfl))
    · simp only [E.b0, E.b1, E.b2, E.b3, E.b4, E.b5, E.b6, E.b7, E.b8, E.b9, E.b10, E.b11, E.b12, E.b13, E.b14, E.b15, E.b16, E.b17, E.b18, E.b19, E.b20, reduceCtorEq] at hc
      all_goals (
        refine E.CW.skip ?_
        refine E.then_n ?_
        refine E.CW.seq ?_
        refine E.CW.seq ?_
        refine E.CW.open 3 rfl ?_
        refine E.CW.sels [0, 0, 0, 0, 2, 2, 2, 2] rfl ?_
        refine E.CW.region ?_
        refine E.OW.pure rfl rfl rfl (E.PV.assign rfl rfl) ?_
        refine E.OW.nil ?_
        refine E.then_n ?_
        refine E.CW.block ?_
        refine E.CW.loopk [2, 5, 6] 1 rfl rfl (fun mm mods Hm => ∃ k : Nat, ∃ ys : List UInt8, mm = gO.l.length - k ∧ mods = [(10, .int .i64 k)] ∧ Hm = [E.HP.row 5 1 gO.A gO.l.length gO.c (E.u8s ys)] ∧ (k ≤ gO.l.length ∧ ys.length = gO.l.length)) (gO.l.length) ?_ ?_
        · exact ⟨[(10, _)], (by repeat (first | exact E.cov_nil | refine ⟨rfl, ?_⟩)), 0, _, rfl, rfl, rfl, by omega, rfl⟩
        · rintro _ _ _ ⟨k, ys, rfl, rfl, rfl, hk, hyl⟩
          refine E.CW.seq ?_
          refine E.CW.seq ?_
          refine E.CW.region ?_
          refine E.OW.pure rfl rfl rfl (E.PV.move rfl rfl) ?_
          refine E.OW.pure rfl rfl rfl (E.PV.fieldAddr fa28_0 rfl rfl) ?_
          refine E.OW.pure rfl rfl rfl (E.PV.fieldAddr fa24_2 rfl rfl) ?_
          refine E.OW.pure rfl rfl rfl (E.PV.load (i := 4) na22 rfl rfl rfl rfl) ?_
          refine E.OW.pure rfl rfl rfl (E.PV.len Try.underlying22 rfl rfl) ?_
          refine E.OW.pure rfl rfl rfl (E.PV.lss rfl rfl rfl) ?_
          refine E.OW.nil ?_
          refine E.then_n ?_
          refine E.CW.cond rfl (fun hc => ?_) (fun hc => ?_)
          · simp only [E.b0, E.b1, E.b2, E.b3, E.b4, E.b5, E.b6, E.b7, E.b8, E.b9, E.b10, E.b11, E.b12, E.b13, E.b14, E.b15, E.b16, E.b17, E.b18, E.b19, E.b20, reduceCtorEq] at hc
            all_goals (
              refine E.CW.skip ?_
              refine E.then_n ?_
              refine E.CW.seq ?_
              refine E.CW.block ?_
              refine E.CW.region ?_
              refine E.OW.pure rfl rfl rfl (E.PV.fieldAddr fa28_0 rfl rfl) ?_
              refine E.OW.pure rfl rfl rfl (E.PV.fieldAddr fa24_2 rfl rfl) ?_
              refine E.OW.pure rfl rfl rfl (E.PV.load (i := 4) na22 rfl rfl rfl rfl) ?_
              refine E.OW.pure rfl rfl rfl (E.PV.move rfl rfl) ?_
              refine E.OW.pure rfl rfl rfl (E.PV.indexAddr1 (E.rdr (i := 0) rfl) Try.underlying22 in5 rfl rfl rfl rfl ?_ ?_) ?_; (focus (first | (simp; done) | (simp only [E.ints_length, E.u8s_length, E.tms_length]; omega))); (focus (omega))
              refine E.OW.pure rfl rfl rfl (E.PV.load_u8 (E.rdr (i := 0) rfl) na5 rfl rfl ?_) ?_; (focus (omega))
              refine E.OW.pure rfl rfl rfl (E.PV.xor_u8 (q := 1) rfl rfl rfl) ?_
              refine E.OW.pure rfl rfl rfl (E.PV.indexAddr1 (E.rdr (i := 0) rfl) Try.underlying22 in5 rfl rfl rfl rfl ?_ ?_) ?_; (focus (first | (simp; done) | (simp only [E.ints_length, E.u8s_length, E.tms_length]; omega))); (focus (omega))
              refine E.OW.store_u8 (i := 0) in5.size rfl rfl rfl rfl rfl rfl ?_ ?_; (focus (omega))
              refine E.OW.nil ?_
              refine E.blk_n ?_
              refine E.then_n ?_
              refine E.CW.region ?_
              refine E.OW.pure rfl rfl rfl (E.PV.move rfl rfl) ?_
              refine E.OW.pure rfl rfl rfl (E.PV.add_i64 rfl rfl rfl ?_) ?_; (focus (omega))
              refine E.OW.pure rfl rfl rfl (E.PV.assign rfl rfl) ?_
              refine E.OW.nil ?_
              refine E.then_nf ?_
              refine ⟨_, [(10, _)], [0, 0, 0, 0, 0, 0, 0, 0], _, ?_, by repeat (first | exact E.cov_nil | refine ⟨rfl, ?_⟩), rfl, k + 1, _, rfl, rfl, rfl, by omega, by simp; omega⟩
              omega)
          · simp only [E.b0, E.b1, E.b2, E.b3, E.b4, E.b5, E.b6, E.b7, E.b8, E.b9, E.b10, E.b11, E.b12, E.b13, E.b14, E.b15, E.b16, E.b17, E.b18, E.b19, E.b20, reduceCtorEq] at hc
            all_goals (
              refine E.CW.exit ?_
              refine E.then_x ?_
              refine E.then_x ?_
              refine E.blk_eq ?_
              refine E.then_n ?_
              refine E.CW.seq ?_
              refine E.CW.seq ?_
              refine E.CW.region ?_
              refine E.OW.pure rfl rfl rfl (E.PV.assign rfl rfl) ?_
              refine E.OW.nil ?_
              refine E.then_n ?_
              refine E.CW.block ?_
              refine E.CW.sels [1, 0, 0, 0, 0, 0, 0, 0] rfl ?_
              refine E.CW.loopk [2, 5, 6] 1 rfl rfl (fun mm mods Hm => ∃ k : Nat, ∃ ys : List UInt8, mm = gO.s.length - k ∧ mods = [(11, .int .i64 k)] ∧ Hm = [E.HP.row 5 1 gO.A1 gO.s.length gO.c1 (E.u8s ys)] ∧ (k ≤ gO.s.length ∧ ys.length = gO.s.length)) (gO.s.length) ?_ ?_
              · exact ⟨[(11, _)], (by repeat (first | exact E.cov_nil | refine ⟨rfl, ?_⟩)), 0, _, rfl, rfl, rfl, by omega, rfl⟩
              · rintro _ _ _ ⟨k, ys, rfl, rfl, rfl, hk, hyl⟩
                refine E.CW.seq ?_
                refine E.CW.seq ?_
                refine E.CW.region ?_
                refine E.OW.pure rfl rfl rfl (E.PV.move rfl rfl) ?_
                refine E.OW.pure rfl rfl rfl (E.PV.fieldAddr fa28_1 rfl rfl) ?_
                refine E.OW.pure rfl rfl rfl (E.PV.load (i := 4) na22 rfl rfl rfl rfl) ?_
                refine E.OW.pure rfl rfl rfl (E.PV.len Try.underlying22 rfl rfl) ?_
                refine E.OW.pure rfl rfl rfl (E.PV.lss rfl rfl rfl) ?_
                refine E.OW.nil ?_
                refine E.then_n ?_
                refine E.CW.cond rfl (fun hc => ?_) (fun hc => ?_)
                · simp only [E.b0, E.b1, E.b2, E.b3, E.b4, E.b5, E.b6, E.b7, E.b8, E.b9, E.b10, E.b11, E.b12, E.b13, E.b14, E.b15, E.b16, E.b17, E.b18, E.b19, E.b20, reduceCtorEq] at hc
                  all_goals (
                    refine E.CW.skip ?_
                    refine E.then_n ?_
                    refine E.CW.seq ?_
                    refine E.CW.block ?_
                    refine E.CW.region ?_
                    refine E.OW.pure rfl rfl rfl (E.PV.fieldAddr fa28_1 rfl rfl) ?_
                    refine E.OW.pure rfl rfl rfl (E.PV.load (i := 4) na22 rfl rfl rfl rfl) ?_
                    refine E.OW.pure rfl rfl rfl (E.PV.move rfl rfl) ?_
                    refine E.OW.pure rfl rfl rfl (E.PV.indexAddr1 (E.rdr (i := 0) rfl) Try.underlying22 in5 rfl rfl rfl rfl ?_ ?_) ?_; (focus (first | (simp; done) | (simp only [E.ints_length, E.u8s_length, E.tms_length]; omega))); (focus (omega))
                    refine E.OW.pure rfl rfl rfl (E.PV.load_u8 (E.rdr (i := 0) rfl) na5 rfl rfl ?_) ?_; (focus (omega))
                    refine E.OW.pure rfl rfl rfl (E.PV.xor_u8 (q := 1) rfl rfl rfl) ?_
                    refine E.OW.pure rfl rfl rfl (E.PV.indexAddr1 (E.rdr (i := 0) rfl) Try.underlying22 in5 rfl rfl rfl rfl ?_ ?_) ?_; (focus (first | (simp; done) | (simp only [E.ints_length, E.u8s_length, E.tms_length]; omega))); (focus (omega))
                    refine E.OW.store_u8 (i := 0) in5.size rfl rfl rfl rfl rfl rfl ?_ ?_; (focus (omega))
                    refine E.OW.nil ?_
                    refine E.blk_n ?_
                    refine E.then_n ?_
                    refine E.CW.region ?_
                    refine E.OW.pure rfl rfl rfl (E.PV.move rfl rfl) ?_
                    refine E.OW.pure rfl rfl rfl (E.PV.add_i64 rfl rfl rfl ?_) ?_; (focus (omega))
                    refine E.OW.pure rfl rfl rfl (E.PV.assign rfl rfl) ?_
                    refine E.OW.nil ?_
                    refine E.then_nf ?_
                    refine ⟨_, [(11, _)], [0, 0, 0, 0, 0, 0, 0, 0], _, ?_, by repeat (first | exact E.cov_nil | refine ⟨rfl, ?_⟩), rfl, k + 1, _, rfl, rfl, rfl, by omega, by simp; omega⟩
                    omega)
                · simp only [E.b0, E.b1, E.b2, E.b3, E.b4, E.b5, E.b6, E.b7, E.b8, E.b9, E.b10, E.b11, E.b12, E.b13, E.b14, E.b15, E.b16, E.b17, E.b18, E.b19, E.b20, reduceCtorEq] at hc
                  all_goals (
                    refine E.CW.exit ?_
                    refine E.then_x ?_
                    refine E.then_x ?_
                    refine E.blk_eq ?_
                    refine E.then_n ?_
                    refine E.CW.seq ?_
                    refine E.CW.seq ?_
                    refine E.CW.region ?_
                    refine E.OW.pure rfl rfl rfl (E.PV.assign rfl rfl) ?_
                    refine E.OW.nil ?_
                    refine E.then_n ?_
                    refine E.CW.block ?_
                    refine E.CW.sels [3, 2, 2, 2, 2, 2] rfl ?_
                    refine E.CW.loopk [2, 5, 6] 2 rfl rfl (fun mm mods Hm => ∃ i : Nat, ∃ tt : List E.Tm, mm = gO.ts.length - i ∧ mods = [(12, .int .i64 i)] ∧ Hm = [E.HP.tms tt, E.HP.row 33 8 gO.A2 gO.ts.length gO.c2 (E.tms tt)] ∧ (i ≤ gO.ts.length ∧ tt.length = gO.ts.length ∧ ∀ m ∈ tt, m.sz)) (gO.ts.length) ?_ ?_
                    · exact ⟨[(12, _)], (by repeat (first | exact E.cov_nil | refine ⟨rfl, ?_⟩)), 0, gO.ts, rfl, rfl, rfl, by omega, rfl, E.sz_fit hOf⟩
                    · rintro _ _ _ ⟨i, tt, rfl, rfl, rfl, hi, htl, hsz⟩
                      refine E.CW.seq ?_
                      refine E.CW.seq ?_
                      refine E.CW.region ?_
                      refine E.OW.pure rfl rfl rfl (E.PV.move rfl rfl) ?_
                      refine E.OW.pure rfl rfl rfl (E.PV.fieldAddr fa28_2 rfl rfl) ?_
                      refine E.OW.pure rfl rfl rfl (E.PV.load (i := 2) na25 rfl rfl rfl rfl) ?_
                      refine E.OW.pure rfl rfl rfl (E.PV.len Try.underlying25 rfl rfl) ?_
                      refine E.OW.pure rfl rfl rfl (E.PV.lss rfl rfl rfl) ?_
                      refine E.OW.nil ?_
                      refine E.then_n ?_
                      refine E.CW.cond rfl (fun hc => ?_) (fun hc => ?_)
                      · simp only [E.b0, E.b1, E.b2, E.b3, E.b4, E.b5, E.b6, E.b7, E.b8, E.b9, E.b10, E.b11, E.b12, E.b13, E.b14, E.b15, E.b16, E.b17, E.b18, E.b19, E.b20, reduceCtorEq] at hc
                        all_goals (
                          refine E.CW.skip ?_
                          refine E.then_n ?_
                          refine E.CW.seq ?_
                          refine E.CW.block ?_
                          refine E.CW.seq ?_
                          refine E.CW.region ?_
                          refine E.OW.pure rfl rfl rfl (E.PV.fieldAddr fa28_2 rfl rfl) ?_
                          refine E.OW.pure rfl rfl rfl (E.PV.load (i := 2) na25 rfl rfl rfl rfl) ?_
                          refine E.OW.pure rfl rfl rfl (E.PV.move rfl rfl) ?_
                          refine E.OW.pure rfl rfl rfl (E.PV.indexAddr (E.rdr (i := 1) rfl) Try.underlying25 in33 rfl rfl rfl rfl ?_ ?_ (by decide)) ?_; (focus (first | (simp; done) | (simp only [E.ints_length, E.u8s_length, E.tms_length]; omega))); (focus (omega))
                          refine E.OW.pure rfl rfl rfl (E.PV.load_tm (E.rdr (i := 1) rfl) is33 rfl rfl ?_) ?_; (focus (omega))
                          refine E.OW.alloc (in33.zr) rfl rfl rfl rfl rfl (fun BM => ?_)
                          refine E.OW.store (i := 0) in33.size rfl rfl rfl rfl rfl rfl rfl rfl rfl ?_
                          refine E.OW.nil ?_
                          refine E.then_n ?_
                          refine E.CW.seq ?_
                          refine E.CW.seq ?_
                          have hsi := hsz _ (E.Tm.mem (show i < tt.length by omega))
                          obtain ⟨hsh, hsp, hsd⟩ := hsi
                          refine E.CW.tmsget 1 i rfl (by omega) ?_
                          refine E.CW.open 0 rfl ?_
                          refine E.CW.region ?_
                          refine E.OW.pure rfl rfl rfl (E.PV.assign rfl rfl) ?_
                          refine E.OW.nil ?_
                          refine E.then_n ?_
                          refine E.CW.block ?_
                          refine E.CW.loopk [2, 5, 6, 12, 13] 1 rfl rfl (fun mm mods Hm => ∃ k : Nat, ∃ yh : List Int, mm = (tt.getD i E.Tm.z).q.h.length - k ∧ mods = [(14, .int .i64 k)] ∧ Hm = [E.HP.row 3 1 (tt.getD i E.Tm.z).A1 (tt.getD i E.Tm.z).q.h.length (tt.getD i E.Tm.z).c1 (E.ints yh)] ∧ (k ≤ (tt.getD i E.Tm.z).q.h.length ∧ yh.length = (tt.getD i E.Tm.z).q.h.length)) ((tt.getD i E.Tm.z).q.h.length) ?_ ?_
                          · exact ⟨[(14, _)], (by repeat (first | exact E.cov_nil | refine ⟨rfl, ?_⟩)), 0, _, rfl, rfl, rfl, by omega, rfl⟩
                          · rintro _ _ _ ⟨k, yh, rfl, rfl, rfl, hk, hyh⟩
                            refine E.CW.seq ?_
                            refine E.CW.seq ?_
                            refine E.CW.region ?_
                            refine E.OW.pure rfl rfl rfl (E.PV.move rfl rfl) ?_
                            refine E.OW.pure rfl rfl rfl (E.PV.fieldAddr fa33_0 rfl rfl) ?_
                            refine E.OW.pure rfl rfl rfl (E.PV.load (i := 4) na31 rfl rfl rfl rfl) ?_
                            refine E.OW.pure rfl rfl rfl (E.PV.len Try.underlying31 rfl rfl) ?_
                            refine E.OW.pure rfl rfl rfl (E.PV.lss rfl rfl rfl) ?_
                            refine E.OW.nil ?_
                            refine E.then_n ?_
                            refine E.CW.cond rfl (fun hc => ?_) (fun hc => ?_)
                            · simp only [E.b0, E.b1, E.b2, E.b3, E.b4, E.b5, E.b6, E.b7, E.b8, E.b9, E.b10, E.b11, E.b12, E.b13, E.b14, E.b15, E.b16, E.b17, E.b18, E.b19, E.b20, reduceCtorEq] at hc
                              all_goals (
                                refine E.CW.skip ?_
                                refine E.then_n ?_
                                refine E.CW.seq ?_
                                refine E.CW.block ?_
                                refine E.CW.region ?_
                                refine E.OW.pure rfl rfl rfl (E.PV.fieldAddr fa33_0 rfl rfl) ?_
                                refine E.OW.pure rfl rfl rfl (E.PV.load (i := 4) na31 rfl rfl rfl rfl) ?_
                                refine E.OW.pure rfl rfl rfl (E.PV.move rfl rfl) ?_
                                refine E.OW.pure rfl rfl rfl (E.PV.indexAddr1 (E.rdr (i := 0) rfl) Try.underlying31 in3 rfl rfl rfl rfl ?_ ?_) ?_; (focus (first | (simp; done) | (simp only [E.ints_length, E.u8s_length, E.tms_length]; omega))); (focus (omega))
                                refine E.OW.pure rfl rfl rfl (E.PV.load_int (E.rdr (i := 0) rfl) na3 rfl rfl ?_) ?_; (focus (omega))
                                refine E.OW.pure rfl rfl rfl (E.PV.xor_i64 rfl rfl rfl) ?_
                                refine E.OW.pure rfl rfl rfl (E.PV.indexAddr1 (E.rdr (i := 0) rfl) Try.underlying31 in3 rfl rfl rfl rfl ?_ ?_) ?_; (focus (first | (simp; done) | (simp only [E.ints_length, E.u8s_length, E.tms_length]; omega))); (focus (omega))
                                refine E.OW.store_int (i := 0) in3.size rfl rfl rfl rfl rfl rfl ?_ ?_; (focus (omega))
                                refine E.OW.nil ?_
                                refine E.blk_n ?_
                                refine E.then_n ?_
                                refine E.CW.region ?_
                                refine E.OW.pure rfl rfl rfl (E.PV.move rfl rfl) ?_
                                refine E.OW.pure rfl rfl rfl (E.PV.add_i64 rfl rfl rfl ?_) ?_; (focus (omega))
                                refine E.OW.pure rfl rfl rfl (E.PV.assign rfl rfl) ?_
                                refine E.OW.nil ?_
                                refine E.then_nf ?_
                                refine ⟨_, [(14, _)], [0, 0, 0, 0, 0, 0, 0, 0, 0, 0], _, ?_, by repeat (first | exact E.cov_nil | refine ⟨rfl, ?_⟩), rfl, k + 1, _, rfl, rfl, rfl, by omega, by rw [List.length_set]; exact hyh⟩
                                omega)
                            · simp only [E.b0, E.b1, E.b2, E.b3, E.b4, E.b5, E.b6, E.b7, E.b8, E.b9, E.b10, E.b11, E.b12, E.b13, E.b14, E.b15, E.b16, E.b17, E.b18, E.b19, E.b20, reduceCtorEq] at hc
                              all_goals (
                                refine E.CW.exit ?_
                                refine E.then_x ?_
                                refine E.then_x ?_
                                refine E.blk_eq ?_
                                refine E.then_n ?_
                                refine E.CW.seq ?_
                                refine E.CW.seq ?_
                                refine E.CW.region ?_
                                refine E.OW.pure rfl rfl rfl (E.PV.assign rfl rfl) ?_
                                refine E.OW.nil ?_
                                refine E.then_n ?_
                                refine E.CW.block ?_
                                refine E.CW.sels [1, 0, 0, 0, 0, 0, 0, 0, 0, 0] rfl ?_
                                refine E.CW.loopk [2, 5, 6, 12, 13] 1 rfl rfl (fun mm mods Hm => ∃ k : Nat, ∃ yp : List Int, mm = (tt.getD i E.Tm.z).q.p.length - k ∧ mods = [(15, .int .i64 k)] ∧ Hm = [E.HP.row 3 1 (tt.getD i E.Tm.z).A2 (tt.getD i E.Tm.z).q.p.length (tt.getD i E.Tm.z).c2 (E.ints yp)] ∧ (k ≤ (tt.getD i E.Tm.z).q.p.length ∧ yp.length = (tt.getD i E.Tm.z).q.p.length)) ((tt.getD i E.Tm.z).q.p.length) ?_ ?_
                                · exact ⟨[(15, _)], (by repeat (first | exact E.cov_nil | refine ⟨rfl, ?_⟩)), 0, _, rfl, rfl, rfl, by omega, rfl⟩
                                · rintro _ _ _ ⟨k, yp, rfl, rfl, rfl, hk, hyp⟩
                                  refine E.CW.seq ?_
                                  refine E.CW.seq ?_
                                  refine E.CW.region ?_
                                  refine E.OW.pure rfl rfl rfl (E.PV.move rfl rfl) ?_
                                  refine E.OW.pure rfl rfl rfl (E.PV.fieldAddr fa33_1 rfl rfl) ?_
                                  refine E.OW.pure rfl rfl rfl (E.PV.load (i := 4) na31 rfl rfl rfl rfl) ?_
                                  refine E.OW.pure rfl rfl rfl (E.PV.len Try.underlying31 rfl rfl) ?_
                                  refine E.OW.pure rfl rfl rfl (E.PV.lss rfl rfl rfl) ?_
                                  refine E.OW.nil ?_
                                  refine E.then_n ?_
                                  refine E.CW.cond rfl (fun hc => ?_) (fun hc => ?_)
                                  · simp only [E.b0, E.b1, E.b2, E.b3, E.b4, E.b5, E.b6, E.b7, E.b8, E.b9, E.b10, E.b11, E.b12, E.b13, E.b14, E.b15, E.b16, E.b17, E.b18, E.b19, E.b20, reduceCtorEq] at hc
                                    all_goals (
                                      refine E.CW.skip ?_
                                      refine E.then_n ?_
                                      refine E.CW.seq ?_
                                      refine E.CW.block ?_
                                      refine E.CW.region ?_
                                      refine E.OW.pure rfl rfl rfl (E.PV.fieldAddr fa33_1 rfl rfl) ?_
                                      refine E.OW.pure rfl rfl rfl (E.PV.load (i := 4) na31 rfl rfl rfl rfl) ?_
                                      refine E.OW.pure rfl rfl rfl (E.PV.move rfl rfl) ?_
                                      refine E.OW.pure rfl rfl rfl (E.PV.indexAddr1 (E.rdr (i := 0) rfl) Try.underlying31 in3 rfl rfl rfl rfl ?_ ?_) ?_; (focus (first | (simp; done) | (simp only [E.ints_length, E.u8s_length, E.tms_length]; omega))); (focus (omega))
                                      refine E.OW.pure rfl rfl rfl (E.PV.load_int (E.rdr (i := 0) rfl) na3 rfl rfl ?_) ?_; (focus (omega))
                                      refine E.OW.pure rfl rfl rfl (E.PV.xor_i64 rfl rfl rfl) ?_
                                      refine E.OW.pure rfl rfl rfl (E.PV.indexAddr1 (E.rdr (i := 0) rfl) Try.underlying31 in3 rfl rfl rfl rfl ?_ ?_) ?_; (focus (first | (simp; done) | (simp only [E.ints_length, E.u8s_length, E.tms_length]; omega))); (focus (omega))
                                      refine E.OW.store_int (i := 0) in3.size rfl rfl rfl rfl rfl rfl ?_ ?_; (focus (omega))
                                      refine E.OW.nil ?_
                                      refine E.blk_n ?_
                                      refine E.then_n ?_
                                      refine E.CW.region ?_
                                      refine E.OW.pure rfl rfl rfl (E.PV.move rfl rfl) ?_
                                      refine E.OW.pure rfl rfl rfl (E.PV.add_i64 rfl rfl rfl ?_) ?_; (focus (omega))
                                      refine E.OW.pure rfl rfl rfl (E.PV.assign rfl rfl) ?_
                                      refine E.OW.nil ?_
                                      refine E.then_nf ?_
                                      refine ⟨_, [(15, _)], [0, 0, 0, 0, 0, 0, 0, 0, 0, 0], _, ?_, by repeat (first | exact E.cov_nil | refine ⟨rfl, ?_⟩), rfl, k + 1, _, rfl, rfl, rfl, by omega, by rw [List.length_set]; exact hyp⟩
                                      omega)
                                  · simp only [E.b0, E.b1, E.b2, E.b3, E.b4, E.b5, E.b6, E.b7, E.b8, E.b9, E.b10, E.b11, E.b12, E.b13, E.b14, E.b15, E.b16, E.b17, E.b18, E.b19, E.b20, reduceCtorEq] at hc
                                    all_goals (
                                      refine E.CW.exit ?_
                                      refine E.then_x ?_
                                      refine E.then_x ?_
                                      refine E.blk_eq ?_
                                      refine E.then_n ?_
                                      refine E.CW.seq ?_
                                      refine E.CW.region ?_
                                      refine E.OW.pure rfl rfl rfl (E.PV.assign rfl rfl) ?_
                                      refine E.OW.nil ?_
                                      refine E.then_n ?_
                                      refine E.CW.block ?_
                                      refine E.CW.sels [2, 0, 0, 0, 0, 0, 0, 0, 0, 0] rfl ?_
                                      refine E.CW.loopk [2, 5, 6, 12, 13] 1 rfl rfl (fun mm mods Hm => ∃ k : Nat, ∃ yd : List Int, mm = (tt.getD i E.Tm.z).q.d.length - k ∧ mods = [(16, .int .i64 k)] ∧ Hm = [E.HP.row 3 1 (tt.getD i E.Tm.z).A3 (tt.getD i E.Tm.z).q.d.length (tt.getD i E.Tm.z).c3 (E.ints yd)] ∧ (k ≤ (tt.getD i E.Tm.z).q.d.length ∧ yd.length = (tt.getD i E.Tm.z).q.d.length)) ((tt.getD i E.Tm.z).q.d.length) ?_ ?_
                                      · exact ⟨[(16, _)], (by repeat (first | exact E.cov_nil | refine ⟨rfl, ?_⟩)), 0, _, rfl, rfl, rfl, by omega, rfl⟩
                                      · rintro _ _ _ ⟨k, yd, rfl, rfl, rfl, hk, hyd⟩
                                        refine E.CW.seq ?_
                                        refine E.CW.seq ?_
                                        refine E.CW.region ?_
                                        refine E.OW.pure rfl rfl rfl (E.PV.move rfl rfl) ?_
                                        refine E.OW.pure rfl rfl rfl (E.PV.fieldAddr fa33_2 rfl rfl) ?_
                                        refine E.OW.pure rfl rfl rfl (E.PV.load (i := 4) na31 rfl rfl rfl rfl) ?_
                                        refine E.OW.pure rfl rfl rfl (E.PV.len Try.underlying31 rfl rfl) ?_
                                        refine E.OW.pure rfl rfl rfl (E.PV.lss rfl rfl rfl) ?_
                                        refine E.OW.nil ?_
                                        refine E.then_n ?_
                                        refine E.CW.cond rfl (fun hc => ?_) (fun hc => ?_)
                                        · simp only [E.b0, E.b1, E.b2, E.b3, E.b4, E.b5, E.b6, E.b7, E.b8, E.b9, E.b10, E.b11, E.b12, E.b13, E.b14, E.b15, E.b16, E.b17, E.b18, E.b19, E.b20, reduceCtorEq] at hc
                                          all_goals (
                                            refine E.CW.skip ?_
                                            refine E.then_n ?_
                                            refine E.CW.seq ?_
                                            refine E.CW.block ?_
                                            refine E.CW.region ?_
                                            refine E.OW.pure rfl rfl rfl (E.PV.fieldAddr fa33_2 rfl rfl) ?_
                                            refine E.OW.pure rfl rfl rfl (E.PV.load (i := 4) na31 rfl rfl rfl rfl) ?_
                                            refine E.OW.pure rfl rfl rfl (E.PV.move rfl rfl) ?_
                                            refine E.OW.pure rfl rfl rfl (E.PV.indexAddr1 (E.rdr (i := 0) rfl) Try.underlying31 in3 rfl rfl rfl rfl ?_ ?_) ?_; (focus (first | (simp; done) | (simp only [E.ints_length, E.u8s_length, E.tms_length]; omega))); (focus (omega))
                                            refine E.OW.pure rfl rfl rfl (E.PV.load_int (E.rdr (i := 0) rfl) na3 rfl rfl ?_) ?_; (focus (omega))
                                            refine E.OW.pure rfl rfl rfl (E.PV.xor_i64 rfl rfl rfl) ?_
                                            refine E.OW.pure rfl rfl rfl (E.PV.indexAddr1 (E.rdr (i := 0) rfl) Try.underlying31 in3 rfl rfl rfl rfl ?_ ?_) ?_; (focus (first | (simp; done) | (simp only [E.ints_length, E.u8s_length, E.tms_length]; omega))); (focus (omega))
                                            refine E.OW.store_int (i := 0) in3.size rfl rfl rfl rfl rfl rfl ?_ ?_; (focus (omega))
                                            refine E.OW.nil ?_
                                            refine E.blk_n ?_
                                            refine E.then_n ?_
                                            refine E.CW.region ?_
                                            refine E.OW.pure rfl rfl rfl (E.PV.move rfl rfl) ?_
                                            refine E.OW.pure rfl rfl rfl (E.PV.add_i64 rfl rfl rfl ?_) ?_; (focus (omega))
                                            refine E.OW.pure rfl rfl rfl (E.PV.assign rfl rfl) ?_
                                            refine E.OW.nil ?_
                                            refine E.then_nf ?_
                                            refine ⟨_, [(16, _)], [0, 0, 0, 0, 0, 0, 0, 0, 0, 0], _, ?_, by repeat (first | exact E.cov_nil | refine ⟨rfl, ?_⟩), rfl, k + 1, _, rfl, rfl, rfl, by omega, by rw [List.length_set]; exact hyd⟩
                                            omega)
                                        · simp only [E.b0, E.b1, E.b2, E.b3, E.b4, E.b5, E.b6, E.b7, E.b8, E.b9, E.b10, E.b11, E.b12, E.b13, E.b14, E.b15, E.b16, E.b17, E.b18, E.b19, E.b20, reduceCtorEq] at hc
                                          all_goals (
                                            refine E.CW.exit ?_
                                            refine E.then_x ?_
                                            refine E.then_x ?_
                                            refine E.blk_eq ?_
                                            refine E.blk_n ?_
                                            refine E.then_n ?_
                                            refine E.CW.chunk 2 (E.HP.row 3 1 (tt.getD i E.Tm.z).A1 yh.length (tt.getD i E.Tm.z).c1 (E.ints yh)) rfl (by rw [hyh]) ?_
                                            refine E.CW.chunk 2 (E.HP.row 3 1 (tt.getD i E.Tm.z).A2 yp.length (tt.getD i E.Tm.z).c2 (E.ints yp)) rfl (by rw [hyp]) ?_
                                            refine E.CW.chunk 2 (E.HP.row 3 1 (tt.getD i E.Tm.z).A3 yd.length (tt.getD i E.Tm.z).c3 (E.ints yd)) rfl (by rw [hyd]) ?_
                                            refine E.CW.gather [2, 1, 0, 0, 0, 0, 0, 0, 0, 0] 3 rfl rfl ?_
                                            refine E.CW.tmsput (m := (⟨⟨yh, yp, yd, (tt.getD i E.Tm.z).q.n1, (tt.getD i E.Tm.z).q.n2, (tt.getD i E.Tm.z).q.n3, (tt.getD i E.Tm.z).q.n4, (tt.getD i E.Tm.z).q.n5⟩, (tt.getD i E.Tm.z).A1, (tt.getD i E.Tm.z).A2, (tt.getD i E.Tm.z).A3, (tt.getD i E.Tm.z).c1, (tt.getD i E.Tm.z).c2, (tt.getD i E.Tm.z).c3⟩ : E.Tm)) 0 0 i rfl rfl (by simp; omega) ?_
                                            refine E.CW.chunk 0 (E.HP.tms (tt.set i (⟨⟨yh, yp, yd, (tt.getD i E.Tm.z).q.n1, (tt.getD i E.Tm.z).q.n2, (tt.getD i E.Tm.z).q.n3, (tt.getD i E.Tm.z).q.n4, (tt.getD i E.Tm.z).q.n5⟩, (tt.getD i E.Tm.z).A1, (tt.getD i E.Tm.z).A2, (tt.getD i E.Tm.z).A3, (tt.getD i E.Tm.z).c1, (tt.getD i E.Tm.z).c2, (tt.getD i E.Tm.z).c3⟩ : E.Tm))) rfl (by rw [List.set_set]) ?_
                                            refine E.CW.chunk 2 (E.HP.row 33 8 gO.A2 gO.ts.length gO.c2 (E.tms (tt.set i (⟨⟨yh, yp, yd, (tt.getD i E.Tm.z).q.n1, (tt.getD i E.Tm.z).q.n2, (tt.getD i E.Tm.z).q.n3, (tt.getD i E.Tm.z).q.n4, (tt.getD i E.Tm.z).q.n5⟩, (tt.getD i E.Tm.z).A1, (tt.getD i E.Tm.z).A2, (tt.getD i E.Tm.z).A3, (tt.getD i E.Tm.z).c1, (tt.getD i E.Tm.z).c2, (tt.getD i E.Tm.z).c3⟩ : E.Tm)))) rfl (by rw [E.tms_same (E.Tm.new_cells hyh hyp hyd)]) ?_
                                            refine E.CW.region ?_
                                            refine E.OW.pure rfl rfl rfl (E.PV.move rfl rfl) ?_
                                            refine E.OW.pure rfl rfl rfl (E.PV.add_i64 rfl rfl rfl ?_) ?_; (focus (omega))
                                            refine E.OW.pure rfl rfl rfl (E.PV.assign rfl rfl) ?_
                                            refine E.OW.nil ?_
                                            refine E.then_nf ?_
                                            refine ⟨_, [(12, _)], [1, 0, 1, 1, 1, 1], _, ?_, by repeat (first | exact E.cov_nil | refine ⟨rfl, ?_⟩), rfl, i + 1, _, rfl, rfl, rfl, by omega, by simp; omega, E.sz_set hsz ⟨by show yh.length ≤ _; omega, by show yp.length ≤ _; omega, by show yd.length ≤ _; omega⟩⟩
                                            omega))))
                      · simp only [E.b0, E.b1, E.b2, E.b3, E.b4, E.b5, E.b6, E.b7, E.b8, E.b9, E.b10, E.b11, E.b12, E.b13, E.b14, E.b15, E.b16, E.b17, E.b18, E.b19, E.b20, reduceCtorEq] at hc
                        all_goals (
                          refine E.CW.exit ?_
                          refine E.then_x ?_
                          refine E.then_x ?_
                          refine E.blk_eq ?_
                          refine E.then_n ?_
                          refine E.CW.seq ?_
                          refine E.CW.region ?_
                          refine E.OW.pure rfl rfl rfl (E.PV.loads (i := 3) is28 rfl rfl rfl rfl) ?_
                          refine E.OW.pure rfl rfl rfl (E.PV.loads (i := 5) is28 rfl rfl rfl rfl) ?_
                          (refine E.OW.call nm20 rfl rfl rfl rfl rfl rfl _ (fun w hw => rSameC_ok _ _ w ?_ ?_ ?_ ?_) ?_; (focus (exact hw.rdcfg (i := 4) rfl)); (focus (refine hw.rdC ?_; assumption)); (focus (assumption)); (focus (assumption)); rintro _ _ ⟨rfl, rfl⟩)
                          refine E.OW.pure rfl rfl rfl (E.PV.assign rfl rfl) ?_
                          refine E.OW.nil ?_
                          refine E.then_n ?_
                          refine E.CW.ret ?_
                          refine E.KR.one [] Try.results6 rfl rfl ?_
                          exact ⟨by first | rfl | (simp [hgT]; done), rfl⟩)))))
end Go.Proofs.Ytbdfljgnlendjaa
