/- Walks (printed by gen.py). -/
import Derived.Test.YtbdfljgnlendjaaG12
import Derived.Test.YtbdfljgnlendjaaCg
namespace Go.Proofs.Ytbdfljgnlendjaa
open Go Go.RowKit
set_option linter.unusedSimpArgs false
set_option linter.unusedVariables false

set_option maxRecDepth 100000 in
theorem spotOf_ok (g : E.Cfg) (p : Int) (w0 : World) (hg : g.rd w0 (E.Old w0)) (hgf : g.q.fit) (hz : Cf.check g.q = 0) :
    Calls Try.prog 48 #[g.v, .int .i64 p] w0 (E.Post w0 (E.Old w0) fun v Hn => ∃ s : Int, v = .int .i64 s ∧ Hn = [] ∧ Cf.SpotAt g.q.ts p s) := by
  obtain ⟨hX1, hX2, hX3, hX4⟩ := id hg
  have hgl := E.Cfg.fit_len hgf
  have htn := E.Cfg.ts_len g
  refine E.calls_of (vs := [g.v, .int .i64 p]) (H := []) Try.func48 Try.ntmps48 rfl rfl (E.HA.start w0) ?_
  refine E.CW.seq ?_
  refine E.CW.region ?_
  refine E.OW.box rfl rfl rfl rfl rfl rfl (fun B1 => ?_)
  refine E.OW.pure rfl rfl rfl (E.PV.assign rfl rfl) ?_
  refine E.OW.nil ?_
  refine E.then_n ?_
  refine E.CW.seq ?_
  refine E.CW.seq ?_
  refine E.CW.region ?_
  refine E.OW.pure rfl rfl rfl (E.PV.assign rfl rfl) ?_
  refine E.OW.nil ?_
  refine E.then_n ?_
  refine E.CW.block ?_
  refine E.CW.loopk [1, 2] 0 rfl rfl (fun mm mods Hm => ∃ k : Nat, mm = g.ts.length - k ∧ mods = [(5, .int .i64 k)] ∧ Hm = [] ∧ (k ≤ g.ts.length ∧ ∀ j, j < k → ¬ p ∈ Cf.spots (g.q.ts.getD j Cf.T.z))) (g.ts.length) ?_ ?_
  · exact ⟨[(5, _)], (by repeat (first | exact E.cov_nil | refine ⟨rfl, ?_⟩)), 0, rfl, rfl, rfl, by omega, fun j hj => by omega⟩
  · rintro _ _ _ ⟨k, rfl, rfl, rfl, hk, hI⟩
    refine E.CW.seq ?_
    refine E.CW.seq ?_
    refine E.CW.region ?_
    refine E.OW.pure rfl rfl rfl (E.PV.move rfl rfl) ?_
    refine E.OW.pure rfl rfl rfl (E.PV.fieldAddr fa28_2 rfl rfl) ?_
    refine E.OW.pure rfl rfl rfl (E.PV.load (i := 0) na25 rfl rfl rfl rfl) ?_
    refine E.OW.pure rfl rfl rfl (E.PV.len Try.underlying25 rfl rfl) ?_
    refine E.OW.pure rfl rfl rfl (E.PV.lss rfl rfl rfl) ?_
    refine E.OW.nil ?_
    refine E.then_n ?_
    refine E.CW.cond rfl (fun hc => ?_) (fun hc => ?_)
    · simp only [E.b0, E.b1, E.b2, E.b3, E.b4, E.b5, E.b6, E.b7, E.b8, E.b9, E.b10, E.b11, E.b12, E.b13, E.b14, E.b15, E.b16, E.b17, E.b18, E.b19, E.b20, reduceCtorEq] at hc
      all_goals (
        refine E.CW.skip ?_
        refine E.then_n ?_
        refine E.CW.seq ?_
        refine E.CW.block ?_
        refine E.CW.seq ?_
        have hsk : Cf.small (g.ts.getD k E.Tm.z).q := by have h0 := Cf.at_small hz (k := k) (by rw [htn]; omega); rwa [E.Cfg.ts_getD] at h0
        refine E.CW.region ?_
        refine E.OW.pure rfl rfl rfl (E.PV.fieldAddr fa28_2 rfl rfl) ?_
        refine E.OW.pure rfl rfl rfl (E.PV.load (i := 0) na25 rfl rfl rfl rfl) ?_
        refine E.OW.pure rfl rfl rfl (E.PV.move rfl rfl) ?_
        refine E.OW.pure rfl rfl rfl (E.PV.indexAddr (E.rdc hX3) Try.underlying25 in33 rfl rfl rfl rfl ?_ ?_ (by decide)) ?_; (focus (first | (simp; done) | (simp; omega))); (focus (omega))
        refine E.OW.pure rfl rfl rfl (E.PV.load_tm (E.rdc hX3) is33 rfl rfl ?_) ?_; (focus (omega))
        (refine E.OW.call nm27 rfl rfl rfl rfl rfl rfl _ (fun w hw => rSp_ok (g.ts.getD k E.Tm.z) w (hw.rdm (hg.m _ (E.Tm.mem (by omega)))) (E.Cfg.fit_m hgf _ (E.Tm.mem (by omega))) (by have h9 := Cf.spots_small hsk; omega)) ?_; rintro _ _ ⟨AR, cR, rfl, rfl⟩)
        refine E.OW.pure rfl rfl rfl (E.PV.assign rfl rfl) ?_
        refine E.OW.nil ?_
        refine E.then_n ?_
        refine E.CW.seq ?_
        refine E.CW.region ?_
        refine E.OW.pure rfl rfl rfl (E.PV.assign rfl rfl) ?_
        refine E.OW.nil ?_
        refine E.then_n ?_
        refine E.CW.block ?_
        refine E.CW.loopk [1, 2, 5, 6] 0 rfl rfl (fun mm mods Hm => ∃ k2 : Nat, mm = (Cf.spots (g.ts.getD k E.Tm.z).q).length - k2 ∧ mods = [(7, .int .i64 k2)] ∧ Hm = [] ∧ (k2 ≤ (Cf.spots (g.ts.getD k E.Tm.z).q).length ∧ ∀ j, j < k2 → ¬ (Cf.spots (g.ts.getD k E.Tm.z).q).getD j 0 = p)) ((Cf.spots (g.ts.getD k E.Tm.z).q).length) ?_ ?_
        · exact ⟨[(7, _)], (by repeat (first | exact E.cov_nil | refine ⟨rfl, ?_⟩)), 0, rfl, rfl, rfl, by omega, fun j hj => by omega⟩
        · rintro _ _ _ ⟨k2, rfl, rfl, rfl, hk2, hJ⟩
          have h9 := Cf.spots_small hsk
          refine E.CW.seq ?_
          refine E.CW.seq ?_
          refine E.CW.region ?_
          refine E.OW.pure rfl rfl rfl (E.PV.move rfl rfl) ?_
          refine E.OW.pure rfl rfl rfl (E.PV.move rfl rfl) ?_
          refine E.OW.pure rfl rfl rfl (E.PV.len Try.underlying31 rfl rfl) ?_
          refine E.OW.pure rfl rfl rfl (E.PV.lss rfl rfl rfl) ?_
          refine E.OW.nil ?_
          refine E.then_n ?_
          refine E.CW.cond rfl (fun hc => ?_) (fun hc => ?_)
          · simp only [E.b0, E.b1, E.b2, E.b3, E.b4, E.b5, E.b6, E.b7, E.b8, E.b9, E.b10, E.b11, E.b12, E.b13, E.b14, E.b15, E.b16, E.b17, E.b18, E.b19, E.b20, reduceCtorEq] at hc
            all_goals (
              refine E.CW.skip ?_
              refine E.then_n ?_
              refine E.CW.seq ?_
              refine E.CW.block ?_
              refine E.CW.seq ?_
              refine E.CW.region ?_
              refine E.OW.pure rfl rfl rfl (E.PV.move rfl rfl) ?_
              refine E.OW.pure rfl rfl rfl (E.PV.move rfl rfl) ?_
              refine E.OW.pure rfl rfl rfl (E.PV.indexAddr1 (E.rdr (i := 0) rfl) Try.underlying31 in3 rfl rfl rfl rfl ?_ ?_) ?_; (focus (first | (simp; done) | (simp; omega))); (focus (omega))
              refine E.OW.pure rfl rfl rfl (E.PV.load_int (E.rdr (i := 0) rfl) na3 rfl rfl ?_) ?_; (focus (omega))
              refine E.OW.pure rfl rfl rfl (E.PV.move rfl rfl) ?_
              refine E.OW.pure rfl rfl rfl (E.PV.eql rfl rfl rfl) ?_
              refine E.OW.nil ?_
              refine E.then_n ?_
              refine E.CW.cond rfl (fun hc => ?_) (fun hc => ?_)
              · simp only [E.b0, E.b1, E.b2, E.b3, E.b4, E.b5, E.b6, E.b7, E.b8, E.b9, E.b10, E.b11, E.b12, E.b13, E.b14, E.b15, E.b16, E.b17, E.b18, E.b19, E.b20, reduceCtorEq] at hc
                all_goals (
                  refine E.CW.seq ?_
                  refine E.CW.region ?_
                  refine E.OW.pure rfl rfl rfl (E.PV.move rfl rfl) ?_
                  refine E.OW.pure rfl rfl rfl (E.PV.assign rfl rfl) ?_
                  refine E.OW.nil ?_
                  refine E.then_n ?_
                  refine E.CW.ret ?_
                  refine E.blk_ret ?_
                  refine E.then_ret ?_
                  refine E.then_ret ?_
                  refine E.blk_ret ?_
                  refine E.blk_ret ?_
                  refine E.then_ret ?_
                  refine E.then_ret ?_
                  refine E.blk_ret ?_
                  refine E.then_ret ?_
                  refine E.KR.one [] Try.results48 rfl rfl ?_
                  exact ⟨_, rfl, rfl, .inr ⟨k, rfl, by rw [htn]; omega, by rw [E.Cfg.ts_getD]; exact Cf.mem_at (j := k2) (by omega) (by assumption)⟩⟩)
              · simp only [E.b0, E.b1, E.b2, E.b3, E.b4, E.b5, E.b6, E.b7, E.b8, E.b9, E.b10, E.b11, E.b12, E.b13, E.b14, E.b15, E.b16, E.b17, E.b18, E.b19, E.b20, reduceCtorEq] at hc
                all_goals (
                  refine E.CW.skip ?_
                  refine E.blk_n ?_
                  refine E.then_n ?_
                  refine E.CW.region ?_
                  refine E.OW.pure rfl rfl rfl (E.PV.move rfl rfl) ?_
                  refine E.OW.pure rfl rfl rfl (E.PV.add_i64 rfl rfl rfl ?_) ?_; (focus (omega))
                  refine E.OW.pure rfl rfl rfl (E.PV.assign rfl rfl) ?_
                  refine E.OW.nil ?_
                  refine E.then_nf ?_
                  refine ⟨_, [(7, _)], [0, 0], _, ?_, by repeat (first | exact E.cov_nil | refine ⟨rfl, ?_⟩), rfl, k2 + 1, rfl, rfl, rfl, by omega, Cf.next_all hJ (by assumption)⟩
                  omega))
          · simp only [E.b0, E.b1, E.b2, E.b3, E.b4, E.b5, E.b6, E.b7, E.b8, E.b9, E.b10, E.b11, E.b12, E.b13, E.b14, E.b15, E.b16, E.b17, E.b18, E.b19, E.b20, reduceCtorEq] at hc
            all_goals (
              refine E.CW.exit ?_
              refine E.then_x ?_
              refine E.then_x ?_
              refine E.blk_eq ?_
              refine E.blk_n ?_
              refine E.then_n ?_
              refine E.CW.region ?_
              refine E.OW.pure rfl rfl rfl (E.PV.move rfl rfl) ?_
              refine E.OW.pure rfl rfl rfl (E.PV.add_i64 rfl rfl rfl ?_) ?_; (focus (omega))
              refine E.OW.pure rfl rfl rfl (E.PV.assign rfl rfl) ?_
              refine E.OW.nil ?_
              refine E.then_nf ?_
              refine ⟨_, [(5, _)], [1], _, ?_, by repeat (first | exact E.cov_nil | refine ⟨rfl, ?_⟩), rfl, k + 1, rfl, rfl, rfl, by omega, fun j hj => by
    rcases Nat.lt_succ_iff_lt_or_eq.1 hj with h | rfl
    · exact hI j h
    · rw [E.Cfg.ts_getD]; exact Cf.not_mem_at (fun q hq => hJ q (by omega))⟩
              omega))
    · simp only [E.b0, E.b1, E.b2, E.b3, E.b4, E.b5, E.b6, E.b7, E.b8, E.b9, E.b10, E.b11, E.b12, E.b13, E.b14, E.b15, E.b16, E.b17, E.b18, E.b19, E.b20, reduceCtorEq] at hc
      all_goals (
        refine E.CW.exit ?_
        refine E.then_x ?_
        refine E.then_x ?_
        refine E.blk_eq ?_
        refine E.then_n ?_
        refine E.CW.seq ?_
        refine E.CW.region ?_
        refine E.OW.pure rfl rfl rfl (E.PV.assign rfl rfl) ?_
        refine E.OW.nil ?_
        refine E.then_n ?_
        refine E.CW.ret ?_
        refine E.KR.one [] Try.results48 rfl rfl ?_
        exact ⟨_, rfl, rfl, .inl ⟨rfl, fun j hj => hI j (by rw [htn] at hj; omega)⟩⟩)
end Go.Proofs.Ytbdfljgnlendjaa
