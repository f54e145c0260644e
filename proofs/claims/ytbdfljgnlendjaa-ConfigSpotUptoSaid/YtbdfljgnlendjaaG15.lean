/- Walks (printed by gen.py). -/
import Derived.Test.YtbdfljgnlendjaaG12
import Derived.Test.YtbdfljgnlendjaaCh
namespace Go.Proofs.Ytbdfljgnlendjaa
open Go Go.RowKit
set_option linter.unusedSimpArgs false
set_option linter.unusedVariables false

set_option maxRecDepth 100000 in
theorem rep_ok (m : E.Tm) (ix p : Int) (w0 : World) (hix : 0 ≤ ix ∧ ix < (Cf.spots m.q).length) (hm : m.rd w0 (E.Old w0)) (hf : m.q.fit) :
    Calls Try.prog 53 #[m.v, .int .i64 ix, .int .i64 p] w0 (E.Post w0 (E.Old w0) fun v Hn => ∃ m2 : E.Tm, v = m2.v ∧ Hn = [E.HP.tm m2] ∧ m2.q = Cf.repl m.q ix.toNat p) := by
  have hsl := Cf.spots_len m.q
  refine E.calls_of (vs := [m.v, .int .i64 ix, .int .i64 p]) (H := []) Try.func53 Try.ntmps53 rfl rfl (E.HA.start w0) ?_
  refine E.CW.seq ?_
  refine E.CW.region ?_
  refine E.OW.box rfl rfl rfl rfl rfl rfl (fun B1 => ?_)
  refine E.OW.alloc (in33.zr) rfl rfl rfl rfl rfl (fun B2 => ?_)
  refine E.OW.nil ?_
  refine E.then_n ?_
  refine E.CW.seq ?_
  refine E.CW.region ?_
  refine E.OW.pure rfl rfl rfl (E.PV.loads (i := 1) is33 rfl rfl rfl rfl) ?_
  (refine E.OW.call nm22 rfl rfl rfl rfl rfl rfl _ (fun w hw => TwinTeam_ok _ w ?_ ?_) ?_; (focus (refine hw.rdm ?_; assumption)); (focus (assumption)); rintro _ _ ⟨mT, rfl, rfl, hmT⟩)
  refine E.OW.store (i := 2) in33.size rfl rfl rfl rfl rfl rfl rfl rfl rfl ?_
  refine E.OW.nil ?_
  refine E.then_n ?_
  refine E.CW.seq ?_
  refine E.CW.seq ?_
  have hTf : mT.q.fit := by rw [hmT]; exact hf
  have hTh := hTf.h
  have hTp := hTf.p
  have hTd := hTf.d
  have hTs := Cf.spots_len mT.q
  have hTe : (Cf.spots mT.q).length = (Cf.spots m.q).length := by rw [hmT]
  refine E.CW.open 1 rfl ?_
  refine E.CW.region ?_
  refine E.OW.pure rfl rfl rfl (E.PV.move rfl rfl) ?_
  refine E.OW.pure rfl rfl rfl (E.PV.fieldAddr fa33_0 rfl rfl) ?_
  refine E.OW.pure rfl rfl rfl (E.PV.load (i := 3) na31 rfl rfl rfl rfl) ?_
  refine E.OW.pure rfl rfl rfl (E.PV.len Try.underlying31 rfl rfl) ?_
  refine E.OW.pure rfl rfl rfl (E.PV.lss rfl rfl rfl) ?_
  refine E.OW.nil ?_
  refine E.then_n ?_
  refine E.CW.cond rfl (fun hc => ?_) (fun hc => ?_)
  · simp only [E.b0, E.b1, E.b2, E.b3, E.b4, E.b5, E.b6, E.b7, E.b8, E.b9, E.b10, E.b11, E.b12, E.b13, E.b14, E.b15, E.b16, E.b17, E.b18, E.b19, E.b20, reduceCtorEq] at hc
    all_goals (
      refine E.CW.seq ?_
      refine E.CW.region ?_
      refine E.OW.pure rfl rfl rfl (E.PV.fieldAddr fa33_0 rfl rfl) ?_
      refine E.OW.pure rfl rfl rfl (E.PV.load (i := 3) na31 rfl rfl rfl rfl) ?_
      refine E.OW.pure rfl rfl rfl (E.PV.move rfl rfl) ?_
      refine E.OW.pure rfl rfl rfl (E.PV.move rfl rfl) ?_
      refine E.OW.pure rfl rfl rfl (E.PV.indexAddr1 (E.rdr (i := 0) rfl) Try.underlying31 in3 rfl rfl rfl (E.tn ?_) ?_ ?_) ?_; (focus (omega)); (focus (first | (simp; done) | (simp; omega))); (focus (omega))
      refine E.OW.store_int (i := 0) in3.size rfl rfl rfl rfl rfl rfl ?_ ?_; (focus (omega))
      refine E.OW.nil ?_
      refine E.then_n ?_
      refine E.CW.seq ?_
      refine E.CW.chunk 0 (E.HP.row 3 1 mT.A1 (mT.q.h.set ix.toNat p).length mT.c1 (E.ints (mT.q.h.set ix.toNat p))) rfl (by rw [List.length_set]) ?_
      refine E.CW.gather [0, 0, 0, 0, 0] 3 rfl rfl ?_
      refine E.CW.chunk 0 (E.HP.tm (⟨⟨(mT.q.h.set ix.toNat p), mT.q.p, mT.q.d, mT.q.n1, mT.q.n2, mT.q.n3, mT.q.n4, mT.q.n5⟩, mT.A1, mT.A2, mT.A3, mT.c1, mT.c2, mT.c3⟩ : E.Tm)) rfl rfl ?_
      refine E.CW.region ?_
      refine E.OW.pure rfl rfl rfl (E.PV.loads (i := 1) is33 rfl rfl rfl rfl) ?_
      refine E.OW.store (i := 2) in33.size rfl rfl rfl rfl rfl rfl rfl rfl rfl ?_
      refine E.OW.nil ?_
      refine E.then_n ?_
      refine E.CW.ret ?_
      refine E.then_ret ?_
      refine E.KR.rv1 [1] Try.results53 (E.rv.cell is33 rfl (E.sli 0 rfl) rfl) rfl ?_
      refine ⟨(⟨⟨(mT.q.h.set ix.toNat p), mT.q.p, mT.q.d, mT.q.n1, mT.q.n2, mT.q.n3, mT.q.n4, mT.q.n5⟩, mT.A1, mT.A2, mT.A3, mT.c1, mT.c2, mT.c3⟩ : E.Tm), congrArg (fun x : List Value => Value.agg x.toArray) (E.Tm.new_cells (by rw [List.length_set]) rfl rfl).symm, rfl, ?_⟩
      have e1 : mT.q.h = m.q.h := congrArg Cf.T.h hmT
      have e2 : mT.q.p = m.q.p := congrArg Cf.T.p hmT
      unfold Cf.repl
      rw [← hmT, if_pos (by omega)])
  · simp only [E.b0, E.b1, E.b2, E.b3, E.b4, E.b5, E.b6, E.b7, E.b8, E.b9, E.b10, E.b11, E.b12, E.b13, E.b14, E.b15, E.b16, E.b17, E.b18, E.b19, E.b20, reduceCtorEq] at hc
    all_goals (
      refine E.CW.skip ?_
      refine E.then_n ?_
      refine E.CW.seq ?_
      refine E.CW.region ?_
      refine E.OW.pure rfl rfl rfl (E.PV.move rfl rfl) ?_
      refine E.OW.pure rfl rfl rfl (E.PV.fieldAddr fa33_0 rfl rfl) ?_
      refine E.OW.pure rfl rfl rfl (E.PV.load (i := 3) na31 rfl rfl rfl rfl) ?_
      refine E.OW.pure rfl rfl rfl (E.PV.len Try.underlying31 rfl rfl) ?_
      refine E.OW.pure rfl rfl rfl (E.PV.sub_i64 rfl rfl rfl ?_) ?_; (focus (omega))
      refine E.OW.pure rfl rfl rfl (E.PV.assign rfl rfl) ?_
      refine E.OW.nil ?_
      refine E.then_n ?_
      refine E.CW.seq ?_
      refine E.CW.seq ?_
      refine E.CW.region ?_
      refine E.OW.pure rfl rfl rfl (E.PV.move rfl rfl) ?_
      refine E.OW.pure rfl rfl rfl (E.PV.fieldAddr fa33_1 rfl rfl) ?_
      refine E.OW.pure rfl rfl rfl (E.PV.load (i := 3) na31 rfl rfl rfl rfl) ?_
      refine E.OW.pure rfl rfl rfl (E.PV.len Try.underlying31 rfl rfl) ?_
      refine E.OW.pure rfl rfl rfl (E.PV.lss rfl rfl rfl) ?_
      refine E.OW.nil ?_
      refine E.then_n ?_
      refine E.CW.cond rfl (fun hc => ?_) (fun hc => ?_)
      · simp only [E.b0, E.b1, E.b2, E.b3, E.b4, E.b5, E.b6, E.b7, E.b8, E.b9, E.b10, E.b11, E.b12, E.b13, E.b14, E.b15, E.b16, E.b17, E.b18, E.b19, E.b20, reduceCtorEq] at hc
        all_goals (
          refine E.CW.seq ?_
          refine E.CW.region ?_
          refine E.OW.pure rfl rfl rfl (E.PV.fieldAddr fa33_1 rfl rfl) ?_
          refine E.OW.pure rfl rfl rfl (E.PV.load (i := 3) na31 rfl rfl rfl rfl) ?_
          refine E.OW.pure rfl rfl rfl (E.PV.move rfl rfl) ?_
          refine E.OW.pure rfl rfl rfl (E.PV.move rfl rfl) ?_
          refine E.OW.pure rfl rfl rfl (E.PV.indexAddr1 (E.rdr (i := 1) rfl) Try.underlying31 in3 rfl rfl rfl (E.tn ?_) ?_ ?_) ?_; (focus (omega)); (focus (first | (simp; done) | (simp; omega))); (focus (omega))
          refine E.OW.store_int (i := 1) in3.size rfl rfl rfl rfl rfl rfl ?_ ?_; (focus (omega))
          refine E.OW.nil ?_
          refine E.then_n ?_
          refine E.CW.seq ?_
          refine E.CW.chunk 0 (E.HP.row 3 1 mT.A2 (mT.q.p.set (ix.toNat - mT.q.h.length) p).length mT.c2 (E.ints (mT.q.p.set (ix.toNat - mT.q.h.length) p))) rfl (by rw [List.length_set]; congr 3; omega) ?_
          refine E.CW.gather [1, 0, 0, 0, 0] 3 rfl rfl ?_
          refine E.CW.chunk 0 (E.HP.tm (⟨⟨mT.q.h, (mT.q.p.set (ix.toNat - mT.q.h.length) p), mT.q.d, mT.q.n1, mT.q.n2, mT.q.n3, mT.q.n4, mT.q.n5⟩, mT.A1, mT.A2, mT.A3, mT.c1, mT.c2, mT.c3⟩ : E.Tm)) rfl rfl ?_
          refine E.CW.region ?_
          refine E.OW.pure rfl rfl rfl (E.PV.loads (i := 1) is33 rfl rfl rfl rfl) ?_
          refine E.OW.store (i := 2) in33.size rfl rfl rfl rfl rfl rfl rfl rfl rfl ?_
          refine E.OW.nil ?_
          refine E.then_n ?_
          refine E.CW.ret ?_
          refine E.then_ret ?_
          refine E.KR.rv1 [1] Try.results53 (E.rv.cell is33 rfl (E.sli 0 rfl) rfl) rfl ?_
          refine ⟨(⟨⟨mT.q.h, (mT.q.p.set (ix.toNat - mT.q.h.length) p), mT.q.d, mT.q.n1, mT.q.n2, mT.q.n3, mT.q.n4, mT.q.n5⟩, mT.A1, mT.A2, mT.A3, mT.c1, mT.c2, mT.c3⟩ : E.Tm), congrArg (fun x : List Value => Value.agg x.toArray) (E.Tm.new_cells rfl (by rw [List.length_set]) rfl).symm, rfl, ?_⟩
          have e1 : mT.q.h = m.q.h := congrArg Cf.T.h hmT
          have e2 : mT.q.p = m.q.p := congrArg Cf.T.p hmT
          unfold Cf.repl
          rw [← hmT, if_neg (by omega), if_pos (by omega)])
      · simp only [E.b0, E.b1, E.b2, E.b3, E.b4, E.b5, E.b6, E.b7, E.b8, E.b9, E.b10, E.b11, E.b12, E.b13, E.b14, E.b15, E.b16, E.b17, E.b18, E.b19, E.b20, reduceCtorEq] at hc
        all_goals (
          refine E.CW.skip ?_
          refine E.then_n ?_
          refine E.CW.seq ?_
          refine E.CW.region ?_
          refine E.OW.pure rfl rfl rfl (E.PV.move rfl rfl) ?_
          refine E.OW.pure rfl rfl rfl (E.PV.fieldAddr fa33_1 rfl rfl) ?_
          refine E.OW.pure rfl rfl rfl (E.PV.load (i := 3) na31 rfl rfl rfl rfl) ?_
          refine E.OW.pure rfl rfl rfl (E.PV.len Try.underlying31 rfl rfl) ?_
          refine E.OW.pure rfl rfl rfl (E.PV.sub_i64 rfl rfl rfl ?_) ?_; (focus (omega))
          refine E.OW.pure rfl rfl rfl (E.PV.assign rfl rfl) ?_
          refine E.OW.nil ?_
          refine E.then_n ?_
          refine E.CW.seq ?_
          refine E.CW.seq ?_
          refine E.CW.region ?_
          refine E.OW.pure rfl rfl rfl (E.PV.move rfl rfl) ?_
          refine E.OW.pure rfl rfl rfl (E.PV.fieldAddr fa33_2 rfl rfl) ?_
          refine E.OW.pure rfl rfl rfl (E.PV.load (i := 3) na31 rfl rfl rfl rfl) ?_
          refine E.OW.pure rfl rfl rfl (E.PV.len Try.underlying31 rfl rfl) ?_
          refine E.OW.pure rfl rfl rfl (E.PV.lss rfl rfl rfl) ?_
          refine E.OW.nil ?_
          refine E.then_n ?_
          refine E.CW.cond rfl (fun hc => ?_) (fun hc => ?_)
          · simp only [E.b0, E.b1, E.b2, E.b3, E.b4, E.b5, E.b6, E.b7, E.b8, E.b9, E.b10, E.b11, E.b12, E.b13, E.b14, E.b15, E.b16, E.b17, E.b18, E.b19, E.b20, reduceCtorEq] at hc
            all_goals (
              refine E.CW.region ?_
              refine E.OW.pure rfl rfl rfl (E.PV.fieldAddr fa33_2 rfl rfl) ?_
              refine E.OW.pure rfl rfl rfl (E.PV.load (i := 3) na31 rfl rfl rfl rfl) ?_
              refine E.OW.pure rfl rfl rfl (E.PV.move rfl rfl) ?_
              refine E.OW.pure rfl rfl rfl (E.PV.move rfl rfl) ?_
              refine E.OW.pure rfl rfl rfl (E.PV.indexAddr1 (E.rdr (i := 2) rfl) Try.underlying31 in3 rfl rfl rfl (E.tn ?_) ?_ ?_) ?_; (focus (omega)); (focus (first | (simp; done) | (simp; omega))); (focus (omega))
              refine E.OW.store_int (i := 2) in3.size rfl rfl rfl rfl rfl rfl ?_ ?_; (focus (omega))
              refine E.OW.nil ?_
              refine E.then_n ?_
              refine E.CW.seq ?_
              refine E.CW.chunk 0 (E.HP.row 3 1 mT.A3 (mT.q.d.set (ix.toNat - mT.q.h.length - mT.q.p.length) p).length mT.c3 (E.ints (mT.q.d.set (ix.toNat - mT.q.h.length - mT.q.p.length) p))) rfl (by rw [List.length_set]; congr 3; omega) ?_
              refine E.CW.gather [1, 1, 0, 0, 0] 3 rfl rfl ?_
              refine E.CW.chunk 0 (E.HP.tm (⟨⟨mT.q.h, mT.q.p, (mT.q.d.set (ix.toNat - mT.q.h.length - mT.q.p.length) p), mT.q.n1, mT.q.n2, mT.q.n3, mT.q.n4, mT.q.n5⟩, mT.A1, mT.A2, mT.A3, mT.c1, mT.c2, mT.c3⟩ : E.Tm)) rfl rfl ?_
              refine E.CW.region ?_
              refine E.OW.pure rfl rfl rfl (E.PV.loads (i := 1) is33 rfl rfl rfl rfl) ?_
              refine E.OW.store (i := 2) in33.size rfl rfl rfl rfl rfl rfl rfl rfl rfl ?_
              refine E.OW.nil ?_
              refine E.then_n ?_
              refine E.CW.ret ?_
              refine E.KR.rv1 [1] Try.results53 (E.rv.cell is33 rfl (E.sli 0 rfl) rfl) rfl ?_
              refine ⟨(⟨⟨mT.q.h, mT.q.p, (mT.q.d.set (ix.toNat - mT.q.h.length - mT.q.p.length) p), mT.q.n1, mT.q.n2, mT.q.n3, mT.q.n4, mT.q.n5⟩, mT.A1, mT.A2, mT.A3, mT.c1, mT.c2, mT.c3⟩ : E.Tm), congrArg (fun x : List Value => Value.agg x.toArray) (E.Tm.new_cells rfl rfl (by rw [List.length_set])).symm, rfl, ?_⟩
              have e1 : mT.q.h = m.q.h := congrArg Cf.T.h hmT
              have e2 : mT.q.p = m.q.p := congrArg Cf.T.p hmT
              unfold Cf.repl
              rw [← hmT, if_neg (by omega), if_neg (by omega)])
          · simp only [E.b0, E.b1, E.b2, E.b3, E.b4, E.b5, E.b6, E.b7, E.b8, E.b9, E.b10, E.b11, E.b12, E.b13, E.b14, E.b15, E.b16, E.b17, E.b18, E.b19, E.b20, reduceCtorEq] at hc
            all_goals (exfalso; omega)))
end Go.Proofs.Ytbdfljgnlendjaa
