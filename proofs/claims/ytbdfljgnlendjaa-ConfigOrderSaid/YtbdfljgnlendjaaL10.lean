/- Walks (printed by gen.py). -/
import Derived.Test.YtbdfljgnlendjaaG12
import Derived.Test.YtbdfljgnlendjaaCg
namespace Go.Proofs.Ytbdfljgnlendjaa
open Go Go.RowKit
set_option linter.unusedSimpArgs false
set_option linter.unusedVariables false

set_option maxRecDepth 100000 in
theorem ConfigOrder_ok (a b : Int) (A : Option Addr) (c : Nat) (l : List UInt8) (t : Int) (m : E.Tm) (i k : UInt8) (w0 : World) (hl : l.length ≤ 140737488355328) (hL : E.Rd w0 (E.Old w0) A (E.u8s l)) (hm : m.rd w0 (E.Old w0)) (hf : m.q.fit) :
    Calls Try.prog 10 #[.agg #[.int .i64 a, .int .i64 b, .slice A l.length c], .int .i64 t, m.v, .int .u8 (i.toNat : Int), .int .u8 (k.toNat : Int)] w0 (E.Post w0 (E.Old w0) fun v Hn => v = .bool true ∧ Hn = []) := by
  have hiu := i.toNat_lt
  have hku := k.toNat_lt
  refine E.calls_of (vs := [.agg #[.int .i64 a, .int .i64 b, .slice A l.length c], .int .i64 t, m.v, .int .u8 (i.toNat : Int), .int .u8 (k.toNat : Int)]) (H := []) Try.func10 Try.ntmps10 rfl rfl (E.HA.start w0) ?_
  refine E.CW.seq ?_
  refine E.CW.region ?_
  refine E.OW.box rfl rfl rfl rfl rfl rfl (fun B1 => ?_)
  refine E.OW.box rfl rfl rfl rfl rfl rfl (fun B2 => ?_)
  refine E.OW.pure rfl rfl rfl (E.PV.assign rfl rfl) ?_
  refine E.OW.nil ?_
  refine E.then_n ?_
  refine E.CW.seq ?_
  refine E.CW.region ?_
  (refine E.OW.call nm45 rfl rfl rfl rfl rfl rfl _ (fun w hw => alive_ok w) ?_; rintro _ _ ⟨rfl, rfl⟩)
  refine E.OW.pure rfl rfl rfl (E.PV.assign rfl rfl) ?_
  refine E.OW.nil ?_
  refine E.then_n ?_
  refine E.CW.seq ?_
  refine E.CW.region ?_
  refine E.OW.pure rfl rfl rfl (E.PV.loads (i := 0) is33 rfl rfl rfl rfl) ?_
  (refine E.OW.call nm22 rfl rfl rfl rfl rfl rfl _ (fun w hw => TwinTeam_ok _ w ?_ ?_) ?_; (focus (refine hw.rdm ?_; assumption)); (focus (assumption)); rintro _ _ ⟨mT, rfl, rfl, hmT⟩)
  refine E.OW.alloc (in33.zr) rfl rfl rfl rfl rfl (fun B3 => ?_)
  refine E.OW.store (i := 0) in33.size rfl rfl rfl rfl rfl rfl rfl rfl rfl ?_
  refine E.OW.nil ?_
  refine E.then_n ?_
  refine E.CW.seq ?_
  have hTf : mT.q.fit := by rw [hmT]; exact hf
  have hTh := hTf.h
  have hTp := hTf.p
  have hTd := hTf.d
  refine E.CW.region ?_
  refine E.OW.pure rfl rfl rfl (E.PV.fieldAddr fa33_0 rfl rfl) ?_
  refine E.OW.pure rfl rfl rfl (E.PV.load (i := 0) na31 rfl rfl rfl rfl) ?_
  refine E.OW.pure rfl rfl rfl (E.PV.fieldAddr fa33_1 rfl rfl) ?_
  refine E.OW.pure rfl rfl rfl (E.PV.load (i := 0) na31 rfl rfl rfl rfl) ?_
  refine E.OW.pure rfl rfl rfl (E.PV.fieldAddr fa33_2 rfl rfl) ?_
  refine E.OW.pure rfl rfl rfl (E.PV.load (i := 0) na31 rfl rfl rfl rfl) ?_
  refine E.OW.buildSlice (Et := 31) (sz := 1) (cs := E.sls [⟨mT.A1, mT.c1, mT.q.h⟩, ⟨mT.A2, mT.c2, mT.q.p⟩, ⟨mT.A3, mT.c3, mT.q.d⟩]) (ps := [(0, .tmp 22), (1, .tmp 24), (2, .tmp 26)]) rfl rfl rfl rfl rfl (by simp) (by unfold maxLen; omega) (fun w => bsl70_3_0_1_2 _ _ _ _ _ _ _ _ _ w) (fun AL => ?_)
  refine E.OW.pure rfl rfl rfl (E.PV.assign rfl rfl) ?_
  refine E.OW.nil ?_
  refine E.then_n ?_
  refine E.CW.seq ?_
  refine E.CW.seq ?_
  refine E.CW.open 2 rfl ?_
  refine E.CW.region ?_
  refine E.OW.pure rfl rfl rfl (E.PV.assign rfl rfl) ?_
  refine E.OW.nil ?_
  refine E.then_n ?_
  refine E.CW.block ?_
  refine E.CW.loopk [1, 3, 4, 5, 7, 11, 12, 13] 3 rfl rfl (fun mm mods Hm => ∃ n : Nat, ∃ yh : List Int, ∃ yp : List Int, ∃ yd : List Int, mm = 3 - n ∧ mods = [(14, .int .i64 n)] ∧ Hm = [E.HP.row 3 1 mT.A1 mT.q.h.length mT.c1 (E.ints yh), E.HP.row 3 1 mT.A2 mT.q.p.length mT.c2 (E.ints yp), E.HP.row 3 1 mT.A3 mT.q.d.length mT.c3 (E.ints yd)] ∧ (n ≤ 3 ∧ yh.Perm mT.q.h ∧ yp.Perm mT.q.p ∧ yd.Perm mT.q.d)) (3) ?_ ?_
  · exact ⟨[(14, _)], (by repeat (first | exact E.cov_nil | refine ⟨rfl, ?_⟩)), 0, _, _, _, rfl, rfl, rfl, by omega, List.Perm.refl _, List.Perm.refl _, List.Perm.refl _⟩
  · rintro _ _ _ ⟨n, yh, yp, yd, rfl, rfl, rfl, hn, hph, hpp, hpd⟩
    have hlh := hph.length_eq
    have hlp := hpp.length_eq
    have hld := hpd.length_eq
    refine E.CW.seq ?_
    refine E.CW.seq ?_
    refine E.CW.region ?_
    refine E.OW.pure rfl rfl rfl (E.PV.move rfl rfl) ?_
    refine E.OW.pure rfl rfl rfl (E.PV.lss rfl rfl rfl) ?_
    refine E.OW.nil ?_
    refine E.then_n ?_
    refine E.CW.cond rfl (fun hc => ?_) (fun hc => ?_)
    · simp only [E.b0, E.b1, E.b2, E.b3, E.b4, E.b5, E.b6, E.b7, E.b8, E.b9, E.b10, E.b11, E.b12, E.b13, E.b14, E.b15, E.b16, E.b17, E.b18, E.b19, E.b20, reduceCtorEq] at hc
      all_goals (
        refine E.CW.skip ?_
        refine E.then_n ?_
        refine E.CW.seq ?_
        refine E.CW.block ?_
        refine E.CW.seq ?_
        rcases (show n = 0 ∨ n = 1 ∨ n = 2 by omega) with hn0 | hn0 | hn0
        · skip
          refine E.CW.region ?_
          refine E.OW.pure rfl rfl rfl (E.PV.move rfl rfl) ?_
          refine E.OW.pure rfl rfl rfl (E.PV.move rfl rfl) ?_
          refine E.OW.pure rfl rfl rfl (E.PV.indexAddr1 (E.rdr (i := 3) rfl) Try.underlying70 in31 rfl rfl rfl rfl ?_ ?_) ?_; (focus (first | (simp; done) | (simp; omega))); (focus (omega))
          refine E.OW.pure rfl rfl rfl (E.PV.load_sl (E.rdr (i := 3) rfl) na31 rfl rfl ?_) ?_; (focus (simp; omega))
          first | (refine E.OW.put 35 (.slice mT.A1 mT.q.h.length mT.c1) rfl ?_ ?_; (focus (rw [hn0]; rfl))) | (refine E.OW.put 35 (.slice mT.A2 mT.q.p.length mT.c2) rfl ?_ ?_; (focus (rw [hn0]; rfl))) | (refine E.OW.put 35 (.slice mT.A3 mT.q.d.length mT.c3) rfl ?_ ?_; (focus (rw [hn0]; rfl)))
          refine E.OW.pure rfl rfl rfl (E.PV.assign rfl rfl) ?_
          refine E.OW.nil ?_
          refine E.then_n ?_
          refine E.CW.seq ?_
          refine E.CW.region ?_
          refine E.OW.pure rfl rfl rfl (E.PV.move rfl rfl) ?_
          refine E.OW.pure rfl rfl rfl (E.PV.len Try.underlying31 rfl rfl) ?_
          refine E.OW.pure rfl rfl rfl (E.PV.gtr rfl rfl rfl) ?_
          refine E.OW.nil ?_
          refine E.then_n ?_
          refine E.CW.cond rfl (fun hc => ?_) (fun hc => ?_)
          · simp only [E.b0, E.b1, E.b2, E.b3, E.b4, E.b5, E.b6, E.b7, E.b8, E.b9, E.b10, E.b11, E.b12, E.b13, E.b14, E.b15, E.b16, E.b17, E.b18, E.b19, E.b20, reduceCtorEq] at hc
            all_goals (
              refine E.CW.seq ?_
              refine E.CW.draw mixed (by kernel_rfl) ?_
              refine E.QW.pure rfl rfl rfl (E.PV.move rfl rfl) ?_
              refine E.QW.pure rfl rfl rfl (E.PV.conv_in Try.underlying5 Try.underlying3 rfl rfl ?_) ?_; (focus (first | exact E.wrap_u8 _ | (simp only [IntKind.wrap_i64, IntKind.wrap_u64, IntKind.wrap_u8]; omega)))
              refine E.QW.pure rfl rfl rfl (E.PV.move rfl rfl) ?_
              refine E.QW.pure rfl rfl rfl (E.PV.len Try.underlying31 rfl rfl) ?_
              refine E.QW.pure rfl rfl rfl (E.PV.rem_i64 rfl rfl rfl ?_ ?_) ?_; (focus (omega)); (focus (omega))
              refine E.QW.pure rfl rfl rfl (E.PV.move rfl rfl) ?_
              refine E.QW.pure rfl rfl rfl (E.PV.conv_in Try.underlying5 Try.underlying3 rfl rfl ?_) ?_; (focus (first | exact E.wrap_u8 _ | (simp only [IntKind.wrap_i64, IntKind.wrap_u64, IntKind.wrap_u8]; omega)))
              refine E.QW.pure rfl rfl rfl (E.PV.move rfl rfl) ?_
              refine E.QW.pure rfl rfl rfl (E.PV.len Try.underlying31 rfl rfl) ?_
              refine E.QW.pure rfl rfl rfl (E.PV.rem_i64 rfl rfl rfl ?_ ?_) ?_; (focus (omega)); (focus (omega))
              refine E.QW.pure rfl rfl rfl (E.PV.assign rfl rfl) ?_
              refine E.QW.pure rfl rfl rfl (E.PV.assign rfl rfl) ?_
              refine E.QW.nil ?_
              refine E.then_n ?_
              first | (refine E.CW.rowsome 0 rfl (by simp only [E.ints_length]; omega) (fun hsome => ?_); refine E.CW.put 16 (.int .i64 ((i.toNat % mT.q.h.length : Nat) : Int)) rfl (by simp) ?_; refine E.CW.put 17 (.int .i64 ((k.toNat % mT.q.h.length : Nat) : Int)) rfl (by simp) ?_; have hja := Nat.mod_lt i.toNat (show 0 < mT.q.h.length by omega); have hjb := Nat.mod_lt k.toNat (show 0 < mT.q.h.length by omega)) | (refine E.CW.rowsome 1 rfl (by simp only [E.ints_length]; omega) (fun hsome => ?_); refine E.CW.put 16 (.int .i64 ((i.toNat % mT.q.p.length : Nat) : Int)) rfl (by simp) ?_; refine E.CW.put 17 (.int .i64 ((k.toNat % mT.q.p.length : Nat) : Int)) rfl (by simp) ?_; have hja := Nat.mod_lt i.toNat (show 0 < mT.q.p.length by omega); have hjb := Nat.mod_lt k.toNat (show 0 < mT.q.p.length by omega)) | (refine E.CW.rowsome 2 rfl (by simp only [E.ints_length]; omega) (fun hsome => ?_); refine E.CW.put 16 (.int .i64 ((i.toNat % mT.q.d.length : Nat) : Int)) rfl (by simp) ?_; refine E.CW.put 17 (.int .i64 ((k.toNat % mT.q.d.length : Nat) : Int)) rfl (by simp) ?_; have hja := Nat.mod_lt i.toNat (show 0 < mT.q.d.length by omega); have hjb := Nat.mod_lt k.toNat (show 0 < mT.q.d.length by omega))
              refine E.CW.drawx mixed [] rfl ?_
              all_goals (refine E.AW.first 0 rfl (by kernel_rfl) (by kernel_rfl) (by kernel_rfl) rfl rfl rfl (E.PV.move rfl rfl) ?_)
              all_goals (refine E.AW.first 1 rfl (by kernel_rfl) (by kernel_rfl) (by kernel_rfl) rfl rfl rfl (E.PV.move rfl rfl) ?_)
              all_goals (refine E.AW.first 2 rfl (by kernel_rfl) (by kernel_rfl) (by kernel_rfl) rfl rfl rfl (E.PV.move rfl rfl) ?_)
              all_goals (refine E.AW.first 3 rfl (by kernel_rfl) (by kernel_rfl) (by kernel_rfl) rfl rfl rfl (E.PV.move rfl rfl) ?_)
              all_goals (refine E.AW.first 4 rfl (by kernel_rfl) (by kernel_rfl) (by kernel_rfl) rfl rfl rfl (E.PV.move rfl rfl) ?_)
              all_goals (refine E.AW.first 5 rfl (by kernel_rfl) (by kernel_rfl) (by kernel_rfl) rfl rfl rfl (E.PV.move rfl rfl) ?_)
              all_goals (refine E.AW.first 6 rfl (by kernel_rfl) (by kernel_rfl) (by kernel_rfl) rfl rfl rfl (E.PV.indexAddrS hsome Try.underlying31 in3 rfl rfl rfl (E.tn (by omega)) (by omega)) ?_)
              all_goals (refine E.AW.first 8 rfl (by kernel_rfl) (by kernel_rfl) (by kernel_rfl) rfl rfl rfl (E.PV.move rfl rfl) ?_)
              all_goals (refine E.AW.first 9 rfl (by kernel_rfl) (by kernel_rfl) (by kernel_rfl) rfl rfl rfl (E.PV.move rfl rfl) ?_)
              all_goals (refine E.AW.first 10 rfl (by kernel_rfl) (by kernel_rfl) (by kernel_rfl) rfl rfl rfl (E.PV.indexAddrS hsome Try.underlying31 in3 rfl rfl rfl (E.tn (by omega)) (by omega)) ?_)
              all_goals (
                refine E.AW.two 7 11 (by kernel_rfl) rfl rfl ?ga1 ?gb1
                case' ga1 =>
                    all_goals (refine E.OW.pure rfl rfl rfl (E.PV.load_int (E.rdr (i := 0) rfl) na3 rfl rfl ?_) ?_; (focus (omega)))
                    all_goals (refine E.AW.nil [] rfl ?_)
                    all_goals (refine E.AW.one 11 (by kernel_rfl) rfl ?_)
                    all_goals (refine E.OW.pure rfl rfl rfl (E.PV.load_int (E.rdr (i := 0) rfl) na3 rfl rfl ?_) ?_; (focus (omega)))
                    all_goals (refine E.AW.nil [] rfl ?_)
                    all_goals (refine E.AW.first 12 rfl (by kernel_rfl) (by kernel_rfl) (by kernel_rfl) rfl rfl rfl (E.PV.indexAddrS hsome Try.underlying31 in3 rfl rfl rfl (E.tn (by omega)) (by omega)) ?_)
                    all_goals (refine E.AW.one 13 (by kernel_rfl) rfl ?_)
                    all_goals (refine E.OW.store_int (i := 0) in3.size rfl rfl rfl rfl rfl rfl ?_ ?_; (focus (omega)))
                    all_goals (refine E.AW.nil [] rfl ?_)
                    all_goals (refine E.AW.first 14 rfl (by kernel_rfl) (by kernel_rfl) (by kernel_rfl) rfl rfl rfl (E.PV.indexAddrS hsome Try.underlying31 in3 rfl rfl rfl (E.tn (by omega)) (by omega)) ?_)
                    all_goals (refine E.AW.one 15 (by kernel_rfl) rfl ?_)
                    all_goals (refine E.OW.store_int (i := 0) in3.size rfl rfl rfl rfl rfl rfl ?_ ?_; (focus (omega)))
                    all_goals (refine E.AW.nil [] rfl ?_)
                    all_goals (refine E.AW.done (by kernel_rfl) ?_)
                case' gb1 =>
                    all_goals (refine E.OW.pure rfl rfl rfl (E.PV.load_int (E.rdr (i := 0) rfl) na3 rfl rfl ?_) ?_; (focus (omega)))
                    all_goals (refine E.AW.nil [] rfl ?_)
                    all_goals (refine E.AW.one 7 (by kernel_rfl) rfl ?_)
                    all_goals (refine E.OW.pure rfl rfl rfl (E.PV.load_int (E.rdr (i := 0) rfl) na3 rfl rfl ?_) ?_; (focus (omega)))
                    all_goals (refine E.AW.nil [] rfl ?_)
                    all_goals (refine E.AW.first 12 rfl (by kernel_rfl) (by kernel_rfl) (by kernel_rfl) rfl rfl rfl (E.PV.indexAddrS hsome Try.underlying31 in3 rfl rfl rfl (E.tn (by omega)) (by omega)) ?_)
                    all_goals (refine E.AW.one 13 (by kernel_rfl) rfl ?_)
                    all_goals (refine E.OW.store_int (i := 0) in3.size rfl rfl rfl rfl rfl rfl ?_ ?_; (focus (omega)))
                    all_goals (refine E.AW.nil [] rfl ?_)
                    all_goals (refine E.AW.first 14 rfl (by kernel_rfl) (by kernel_rfl) (by kernel_rfl) rfl rfl rfl (E.PV.indexAddrS hsome Try.underlying31 in3 rfl rfl rfl (E.tn (by omega)) (by omega)) ?_)
                    all_goals (refine E.AW.one 15 (by kernel_rfl) rfl ?_)
                    all_goals (refine E.OW.store_int (i := 0) in3.size rfl rfl rfl rfl rfl rfl ?_ ?_; (focus (omega)))
                    all_goals (refine E.AW.nil [] rfl ?_)
                    all_goals (refine E.AW.done (by kernel_rfl) ?_))
              all_goals (
                skip
                refine E.blk_n ?_
                refine E.then_n ?_
                first | (refine E.CW.chunk 0 (E.HP.row 3 1 mT.A3 mT.q.d.length mT.c3 (E.ints _)) rfl rfl ?_) | (refine E.CW.chunk 1 (E.HP.row 3 1 mT.A3 mT.q.d.length mT.c3 (E.ints _)) rfl rfl ?_) | (refine E.CW.chunk 2 (E.HP.row 3 1 mT.A3 mT.q.d.length mT.c3 (E.ints _)) rfl rfl ?_)
                first | (refine E.CW.chunk 0 (E.HP.row 3 1 mT.A2 mT.q.p.length mT.c2 (E.ints _)) rfl rfl ?_) | (refine E.CW.chunk 1 (E.HP.row 3 1 mT.A2 mT.q.p.length mT.c2 (E.ints _)) rfl rfl ?_) | (refine E.CW.chunk 2 (E.HP.row 3 1 mT.A2 mT.q.p.length mT.c2 (E.ints _)) rfl rfl ?_)
                first | (refine E.CW.chunk 0 (E.HP.row 3 1 mT.A1 mT.q.h.length mT.c1 (E.ints _)) rfl rfl ?_) | (refine E.CW.chunk 1 (E.HP.row 3 1 mT.A1 mT.q.h.length mT.c1 (E.ints _)) rfl rfl ?_) | (refine E.CW.chunk 2 (E.HP.row 3 1 mT.A1 mT.q.h.length mT.c1 (E.ints _)) rfl rfl ?_)
                refine E.CW.region ?_
                refine E.OW.pure rfl rfl rfl (E.PV.move rfl rfl) ?_
                refine E.OW.pure rfl rfl rfl (E.PV.add_i64 rfl rfl rfl ?_) ?_; (focus (omega))
                refine E.OW.pure rfl rfl rfl (E.PV.assign rfl rfl) ?_
                refine E.OW.nil ?_
                refine E.then_nf ?_
                refine ⟨_, [(14, _)], [0, 0, 0, 0, 0, 0, 0], _, ?_, by repeat (first | exact E.cov_nil | refine ⟨rfl, ?_⟩), rfl, n + 1, _, _, _, rfl, rfl, rfl, by omega, by first | assumption | exact (Cf.swp_perm (by omega) (by omega)).trans hph, by first | assumption | exact (Cf.swp_perm (by omega) (by omega)).trans hpp, by first | assumption | exact (Cf.swp_perm (by omega) (by omega)).trans hpd⟩
                omega))
          · simp only [E.b0, E.b1, E.b2, E.b3, E.b4, E.b5, E.b6, E.b7, E.b8, E.b9, E.b10, E.b11, E.b12, E.b13, E.b14, E.b15, E.b16, E.b17, E.b18, E.b19, E.b20, reduceCtorEq] at hc
            all_goals (
              refine E.CW.skip ?_
              refine E.blk_n ?_
              refine E.then_n ?_
              first | (refine E.CW.chunk 0 (E.HP.row 3 1 mT.A3 mT.q.d.length mT.c3 (E.ints _)) rfl rfl ?_) | (refine E.CW.chunk 1 (E.HP.row 3 1 mT.A3 mT.q.d.length mT.c3 (E.ints _)) rfl rfl ?_) | (refine E.CW.chunk 2 (E.HP.row 3 1 mT.A3 mT.q.d.length mT.c3 (E.ints _)) rfl rfl ?_)
              first | (refine E.CW.chunk 0 (E.HP.row 3 1 mT.A2 mT.q.p.length mT.c2 (E.ints _)) rfl rfl ?_) | (refine E.CW.chunk 1 (E.HP.row 3 1 mT.A2 mT.q.p.length mT.c2 (E.ints _)) rfl rfl ?_) | (refine E.CW.chunk 2 (E.HP.row 3 1 mT.A2 mT.q.p.length mT.c2 (E.ints _)) rfl rfl ?_)
              first | (refine E.CW.chunk 0 (E.HP.row 3 1 mT.A1 mT.q.h.length mT.c1 (E.ints _)) rfl rfl ?_) | (refine E.CW.chunk 1 (E.HP.row 3 1 mT.A1 mT.q.h.length mT.c1 (E.ints _)) rfl rfl ?_) | (refine E.CW.chunk 2 (E.HP.row 3 1 mT.A1 mT.q.h.length mT.c1 (E.ints _)) rfl rfl ?_)
              refine E.CW.region ?_
              refine E.OW.pure rfl rfl rfl (E.PV.move rfl rfl) ?_
              refine E.OW.pure rfl rfl rfl (E.PV.add_i64 rfl rfl rfl ?_) ?_; (focus (omega))
              refine E.OW.pure rfl rfl rfl (E.PV.assign rfl rfl) ?_
              refine E.OW.nil ?_
              refine E.then_nf ?_
              refine ⟨_, [(14, _)], [0, 0, 0, 0, 0, 0, 0], _, ?_, by repeat (first | exact E.cov_nil | refine ⟨rfl, ?_⟩), rfl, n + 1, _, _, _, rfl, rfl, rfl, by omega, by first | assumption | exact (Cf.swp_perm (by omega) (by omega)).trans hph, by first | assumption | exact (Cf.swp_perm (by omega) (by omega)).trans hpp, by first | assumption | exact (Cf.swp_perm (by omega) (by omega)).trans hpd⟩
              omega)
        · skip
          refine E.CW.region ?_
          refine E.OW.pure rfl rfl rfl (E.PV.move rfl rfl) ?_
          refine E.OW.pure rfl rfl rfl (E.PV.move rfl rfl) ?_
          refine E.OW.pure rfl rfl rfl (E.PV.indexAddr1 (E.rdr (i := 3) rfl) Try.underlying70 in31 rfl rfl rfl rfl ?_ ?_) ?_; (focus (first | (simp; done) | (simp; omega))); (focus (omega))
          refine E.OW.pure rfl rfl rfl (E.PV.load_sl (E.rdr (i := 3) rfl) na31 rfl rfl ?_) ?_; (focus (simp; omega))
          first | (refine E.OW.put 35 (.slice mT.A1 mT.q.h.length mT.c1) rfl ?_ ?_; (focus (rw [hn0]; rfl))) | (refine E.OW.put 35 (.slice mT.A2 mT.q.p.length mT.c2) rfl ?_ ?_; (focus (rw [hn0]; rfl))) | (refine E.OW.put 35 (.slice mT.A3 mT.q.d.length mT.c3) rfl ?_ ?_; (focus (rw [hn0]; rfl)))
          refine E.OW.pure rfl rfl rfl (E.PV.assign rfl rfl) ?_
          refine E.OW.nil ?_
          refine E.then_n ?_
          refine E.CW.seq ?_
          refine E.CW.region ?_
          refine E.OW.pure rfl rfl rfl (E.PV.move rfl rfl) ?_
          refine E.OW.pure rfl rfl rfl (E.PV.len Try.underlying31 rfl rfl) ?_
          refine E.OW.pure rfl rfl rfl (E.PV.gtr rfl rfl rfl) ?_
          refine E.OW.nil ?_
          refine E.then_n ?_
          refine E.CW.cond rfl (fun hc => ?_) (fun hc => ?_)
          · simp only [E.b0, E.b1, E.b2, E.b3, E.b4, E.b5, E.b6, E.b7, E.b8, E.b9, E.b10, E.b11, E.b12, E.b13, E.b14, E.b15, E.b16, E.b17, E.b18, E.b19, E.b20, reduceCtorEq] at hc
            all_goals (
              refine E.CW.seq ?_
              refine E.CW.draw mixed (by kernel_rfl) ?_
              refine E.QW.pure rfl rfl rfl (E.PV.move rfl rfl) ?_
              refine E.QW.pure rfl rfl rfl (E.PV.conv_in Try.underlying5 Try.underlying3 rfl rfl ?_) ?_; (focus (first | exact E.wrap_u8 _ | (simp only [IntKind.wrap_i64, IntKind.wrap_u64, IntKind.wrap_u8]; omega)))
              refine E.QW.pure rfl rfl rfl (E.PV.move rfl rfl) ?_
              refine E.QW.pure rfl rfl rfl (E.PV.len Try.underlying31 rfl rfl) ?_
              refine E.QW.pure rfl rfl rfl (E.PV.rem_i64 rfl rfl rfl ?_ ?_) ?_; (focus (omega)); (focus (omega))
              refine E.QW.pure rfl rfl rfl (E.PV.move rfl rfl) ?_
              refine E.QW.pure rfl rfl rfl (E.PV.conv_in Try.underlying5 Try.underlying3 rfl rfl ?_) ?_; (focus (first | exact E.wrap_u8 _ | (simp only [IntKind.wrap_i64, IntKind.wrap_u64, IntKind.wrap_u8]; omega)))
              refine E.QW.pure rfl rfl rfl (E.PV.move rfl rfl) ?_
              refine E.QW.pure rfl rfl rfl (E.PV.len Try.underlying31 rfl rfl) ?_
              refine E.QW.pure rfl rfl rfl (E.PV.rem_i64 rfl rfl rfl ?_ ?_) ?_; (focus (omega)); (focus (omega))
              refine E.QW.pure rfl rfl rfl (E.PV.assign rfl rfl) ?_
              refine E.QW.pure rfl rfl rfl (E.PV.assign rfl rfl) ?_
              refine E.QW.nil ?_
              refine E.then_n ?_
              first | (refine E.CW.rowsome 0 rfl (by simp only [E.ints_length]; omega) (fun hsome => ?_); refine E.CW.put 16 (.int .i64 ((i.toNat % mT.q.h.length : Nat) : Int)) rfl (by simp) ?_; refine E.CW.put 17 (.int .i64 ((k.toNat % mT.q.h.length : Nat) : Int)) rfl (by simp) ?_; have hja := Nat.mod_lt i.toNat (show 0 < mT.q.h.length by omega); have hjb := Nat.mod_lt k.toNat (show 0 < mT.q.h.length by omega)) | (refine E.CW.rowsome 1 rfl (by simp only [E.ints_length]; omega) (fun hsome => ?_); refine E.CW.put 16 (.int .i64 ((i.toNat % mT.q.p.length : Nat) : Int)) rfl (by simp) ?_; refine E.CW.put 17 (.int .i64 ((k.toNat % mT.q.p.length : Nat) : Int)) rfl (by simp) ?_; have hja := Nat.mod_lt i.toNat (show 0 < mT.q.p.length by omega); have hjb := Nat.mod_lt k.toNat (show 0 < mT.q.p.length by omega)) | (refine E.CW.rowsome 2 rfl (by simp only [E.ints_length]; omega) (fun hsome => ?_); refine E.CW.put 16 (.int .i64 ((i.toNat % mT.q.d.length : Nat) : Int)) rfl (by simp) ?_; refine E.CW.put 17 (.int .i64 ((k.toNat % mT.q.d.length : Nat) : Int)) rfl (by simp) ?_; have hja := Nat.mod_lt i.toNat (show 0 < mT.q.d.length by omega); have hjb := Nat.mod_lt k.toNat (show 0 < mT.q.d.length by omega))
              refine E.CW.drawx mixed [] rfl ?_
              all_goals (refine E.AW.first 0 rfl (by kernel_rfl) (by kernel_rfl) (by kernel_rfl) rfl rfl rfl (E.PV.move rfl rfl) ?_)
              all_goals (refine E.AW.first 1 rfl (by kernel_rfl) (by kernel_rfl) (by kernel_rfl) rfl rfl rfl (E.PV.move rfl rfl) ?_)
              all_goals (refine E.AW.first 2 rfl (by kernel_rfl) (by kernel_rfl) (by kernel_rfl) rfl rfl rfl (E.PV.move rfl rfl) ?_)
              all_goals (refine E.AW.first 3 rfl (by kernel_rfl) (by kernel_rfl) (by kernel_rfl) rfl rfl rfl (E.PV.move rfl rfl) ?_)
              all_goals (refine E.AW.first 4 rfl (by kernel_rfl) (by kernel_rfl) (by kernel_rfl) rfl rfl rfl (E.PV.move rfl rfl) ?_)
              all_goals (refine E.AW.first 5 rfl (by kernel_rfl) (by kernel_rfl) (by kernel_rfl) rfl rfl rfl (E.PV.move rfl rfl) ?_)
              all_goals (refine E.AW.first 6 rfl (by kernel_rfl) (by kernel_rfl) (by kernel_rfl) rfl rfl rfl (E.PV.indexAddrS hsome Try.underlying31 in3 rfl rfl rfl (E.tn (by omega)) (by omega)) ?_)
              all_goals (refine E.AW.first 8 rfl (by kernel_rfl) (by kernel_rfl) (by kernel_rfl) rfl rfl rfl (E.PV.move rfl rfl) ?_)
              all_goals (refine E.AW.first 9 rfl (by kernel_rfl) (by kernel_rfl) (by kernel_rfl) rfl rfl rfl (E.PV.move rfl rfl) ?_)
              all_goals (refine E.AW.first 10 rfl (by kernel_rfl) (by kernel_rfl) (by kernel_rfl) rfl rfl rfl (E.PV.indexAddrS hsome Try.underlying31 in3 rfl rfl rfl (E.tn (by omega)) (by omega)) ?_)
              all_goals (
                refine E.AW.two 7 11 (by kernel_rfl) rfl rfl ?ga2 ?gb2
                case' ga2 =>
                    all_goals (refine E.OW.pure rfl rfl rfl (E.PV.load_int (E.rdr (i := 1) rfl) na3 rfl rfl ?_) ?_; (focus (omega)))
                    all_goals (refine E.AW.nil [] rfl ?_)
                    all_goals (refine E.AW.one 11 (by kernel_rfl) rfl ?_)
                    all_goals (refine E.OW.pure rfl rfl rfl (E.PV.load_int (E.rdr (i := 1) rfl) na3 rfl rfl ?_) ?_; (focus (omega)))
                    all_goals (refine E.AW.nil [] rfl ?_)
                    all_goals (refine E.AW.first 12 rfl (by kernel_rfl) (by kernel_rfl) (by kernel_rfl) rfl rfl rfl (E.PV.indexAddrS hsome Try.underlying31 in3 rfl rfl rfl (E.tn (by omega)) (by omega)) ?_)
                    all_goals (refine E.AW.one 13 (by kernel_rfl) rfl ?_)
                    all_goals (refine E.OW.store_int (i := 1) in3.size rfl rfl rfl rfl rfl rfl ?_ ?_; (focus (omega)))
                    all_goals (refine E.AW.nil [] rfl ?_)
                    all_goals (refine E.AW.first 14 rfl (by kernel_rfl) (by kernel_rfl) (by kernel_rfl) rfl rfl rfl (E.PV.indexAddrS hsome Try.underlying31 in3 rfl rfl rfl (E.tn (by omega)) (by omega)) ?_)
                    all_goals (refine E.AW.one 15 (by kernel_rfl) rfl ?_)
                    all_goals (refine E.OW.store_int (i := 0) in3.size rfl rfl rfl rfl rfl rfl ?_ ?_; (focus (omega)))
                    all_goals (refine E.AW.nil [] rfl ?_)
                    all_goals (refine E.AW.done (by kernel_rfl) ?_)
                case' gb2 =>
                    all_goals (refine E.OW.pure rfl rfl rfl (E.PV.load_int (E.rdr (i := 1) rfl) na3 rfl rfl ?_) ?_; (focus (omega)))
                    all_goals (refine E.AW.nil [] rfl ?_)
                    all_goals (refine E.AW.one 7 (by kernel_rfl) rfl ?_)
                    all_goals (refine E.OW.pure rfl rfl rfl (E.PV.load_int (E.rdr (i := 1) rfl) na3 rfl rfl ?_) ?_; (focus (omega)))
                    all_goals (refine E.AW.nil [] rfl ?_)
                    all_goals (refine E.AW.first 12 rfl (by kernel_rfl) (by kernel_rfl) (by kernel_rfl) rfl rfl rfl (E.PV.indexAddrS hsome Try.underlying31 in3 rfl rfl rfl (E.tn (by omega)) (by omega)) ?_)
                    all_goals (refine E.AW.one 13 (by kernel_rfl) rfl ?_)
                    all_goals (refine E.OW.store_int (i := 1) in3.size rfl rfl rfl rfl rfl rfl ?_ ?_; (focus (omega)))
                    all_goals (refine E.AW.nil [] rfl ?_)
                    all_goals (refine E.AW.first 14 rfl (by kernel_rfl) (by kernel_rfl) (by kernel_rfl) rfl rfl rfl (E.PV.indexAddrS hsome Try.underlying31 in3 rfl rfl rfl (E.tn (by omega)) (by omega)) ?_)
                    all_goals (refine E.AW.one 15 (by kernel_rfl) rfl ?_)
                    all_goals (refine E.OW.store_int (i := 0) in3.size rfl rfl rfl rfl rfl rfl ?_ ?_; (focus (omega)))
                    all_goals (refine E.AW.nil [] rfl ?_)
                    all_goals (refine E.AW.done (by kernel_rfl) ?_))
              all_goals (
                skip
                refine E.blk_n ?_
                refine E.then_n ?_
                first | (refine E.CW.chunk 0 (E.HP.row 3 1 mT.A3 mT.q.d.length mT.c3 (E.ints _)) rfl rfl ?_) | (refine E.CW.chunk 1 (E.HP.row 3 1 mT.A3 mT.q.d.length mT.c3 (E.ints _)) rfl rfl ?_) | (refine E.CW.chunk 2 (E.HP.row 3 1 mT.A3 mT.q.d.length mT.c3 (E.ints _)) rfl rfl ?_)
                first | (refine E.CW.chunk 0 (E.HP.row 3 1 mT.A2 mT.q.p.length mT.c2 (E.ints _)) rfl rfl ?_) | (refine E.CW.chunk 1 (E.HP.row 3 1 mT.A2 mT.q.p.length mT.c2 (E.ints _)) rfl rfl ?_) | (refine E.CW.chunk 2 (E.HP.row 3 1 mT.A2 mT.q.p.length mT.c2 (E.ints _)) rfl rfl ?_)
                first | (refine E.CW.chunk 0 (E.HP.row 3 1 mT.A1 mT.q.h.length mT.c1 (E.ints _)) rfl rfl ?_) | (refine E.CW.chunk 1 (E.HP.row 3 1 mT.A1 mT.q.h.length mT.c1 (E.ints _)) rfl rfl ?_) | (refine E.CW.chunk 2 (E.HP.row 3 1 mT.A1 mT.q.h.length mT.c1 (E.ints _)) rfl rfl ?_)
                refine E.CW.region ?_
                refine E.OW.pure rfl rfl rfl (E.PV.move rfl rfl) ?_
                refine E.OW.pure rfl rfl rfl (E.PV.add_i64 rfl rfl rfl ?_) ?_; (focus (omega))
                refine E.OW.pure rfl rfl rfl (E.PV.assign rfl rfl) ?_
                refine E.OW.nil ?_
                refine E.then_nf ?_
                refine ⟨_, [(14, _)], [0, 0, 0, 0, 0, 0, 0], _, ?_, by repeat (first | exact E.cov_nil | refine ⟨rfl, ?_⟩), rfl, n + 1, _, _, _, rfl, rfl, rfl, by omega, by first | assumption | exact (Cf.swp_perm (by omega) (by omega)).trans hph, by first | assumption | exact (Cf.swp_perm (by omega) (by omega)).trans hpp, by first | assumption | exact (Cf.swp_perm (by omega) (by omega)).trans hpd⟩
                omega))
          · simp only [E.b0, E.b1, E.b2, E.b3, E.b4, E.b5, E.b6, E.b7, E.b8, E.b9, E.b10, E.b11, E.b12, E.b13, E.b14, E.b15, E.b16, E.b17, E.b18, E.b19, E.b20, reduceCtorEq] at hc
            all_goals (
              refine E.CW.skip ?_
              refine E.blk_n ?_
              refine E.then_n ?_
              first | (refine E.CW.chunk 0 (E.HP.row 3 1 mT.A3 mT.q.d.length mT.c3 (E.ints _)) rfl rfl ?_) | (refine E.CW.chunk 1 (E.HP.row 3 1 mT.A3 mT.q.d.length mT.c3 (E.ints _)) rfl rfl ?_) | (refine E.CW.chunk 2 (E.HP.row 3 1 mT.A3 mT.q.d.length mT.c3 (E.ints _)) rfl rfl ?_)
              first | (refine E.CW.chunk 0 (E.HP.row 3 1 mT.A2 mT.q.p.length mT.c2 (E.ints _)) rfl rfl ?_) | (refine E.CW.chunk 1 (E.HP.row 3 1 mT.A2 mT.q.p.length mT.c2 (E.ints _)) rfl rfl ?_) | (refine E.CW.chunk 2 (E.HP.row 3 1 mT.A2 mT.q.p.length mT.c2 (E.ints _)) rfl rfl ?_)
              first | (refine E.CW.chunk 0 (E.HP.row 3 1 mT.A1 mT.q.h.length mT.c1 (E.ints _)) rfl rfl ?_) | (refine E.CW.chunk 1 (E.HP.row 3 1 mT.A1 mT.q.h.length mT.c1 (E.ints _)) rfl rfl ?_) | (refine E.CW.chunk 2 (E.HP.row 3 1 mT.A1 mT.q.h.length mT.c1 (E.ints _)) rfl rfl ?_)
              refine E.CW.region ?_
              refine E.OW.pure rfl rfl rfl (E.PV.move rfl rfl) ?_
              refine E.OW.pure rfl rfl rfl (E.PV.add_i64 rfl rfl rfl ?_) ?_; (focus (omega))
              refine E.OW.pure rfl rfl rfl (E.PV.assign rfl rfl) ?_
              refine E.OW.nil ?_
              refine E.then_nf ?_
              refine ⟨_, [(14, _)], [0, 0, 0, 0, 0, 0, 0], _, ?_, by repeat (first | exact E.cov_nil | refine ⟨rfl, ?_⟩), rfl, n + 1, _, _, _, rfl, rfl, rfl, by omega, by first | assumption | exact (Cf.swp_perm (by omega) (by omega)).trans hph, by first | assumption | exact (Cf.swp_perm (by omega) (by omega)).trans hpp, by first | assumption | exact (Cf.swp_perm (by omega) (by omega)).trans hpd⟩
              omega)
        · skip
          refine E.CW.region ?_
          refine E.OW.pure rfl rfl rfl (E.PV.move rfl rfl) ?_
          refine E.OW.pure rfl rfl rfl (E.PV.move rfl rfl) ?_
          refine E.OW.pure rfl rfl rfl (E.PV.indexAddr1 (E.rdr (i := 3) rfl) Try.underlying70 in31 rfl rfl rfl rfl ?_ ?_) ?_; (focus (first | (simp; done) | (simp; omega))); (focus (omega))
          refine E.OW.pure rfl rfl rfl (E.PV.load_sl (E.rdr (i := 3) rfl) na31 rfl rfl ?_) ?_; (focus (simp; omega))
          first | (refine E.OW.put 35 (.slice mT.A1 mT.q.h.length mT.c1) rfl ?_ ?_; (focus (rw [hn0]; rfl))) | (refine E.OW.put 35 (.slice mT.A2 mT.q.p.length mT.c2) rfl ?_ ?_; (focus (rw [hn0]; rfl))) | (refine E.OW.put 35 (.slice mT.A3 mT.q.d.length mT.c3) rfl ?_ ?_; (focus (rw [hn0]; rfl)))
          refine E.OW.pure rfl rfl rfl (E.PV.assign rfl rfl) ?_
          refine E.OW.nil ?_
          refine E.then_n ?_
          refine E.CW.seq ?_
          refine E.CW.region ?_
          refine E.OW.pure rfl rfl rfl (E.PV.move rfl rfl) ?_
          refine E.OW.pure rfl rfl rfl (E.PV.len Try.underlying31 rfl rfl) ?_
          refine E.OW.pure rfl rfl rfl (E.PV.gtr rfl rfl rfl) ?_
          refine E.OW.nil ?_
          refine E.then_n ?_
          refine E.CW.cond rfl (fun hc => ?_) (fun hc => ?_)
          · simp only [E.b0, E.b1, E.b2, E.b3, E.b4, E.b5, E.b6, E.b7, E.b8, E.b9, E.b10, E.b11, E.b12, E.b13, E.b14, E.b15, E.b16, E.b17, E.b18, E.b19, E.b20, reduceCtorEq] at hc
            all_goals (
              refine E.CW.seq ?_
              refine E.CW.draw mixed (by kernel_rfl) ?_
              refine E.QW.pure rfl rfl rfl (E.PV.move rfl rfl) ?_
              refine E.QW.pure rfl rfl rfl (E.PV.conv_in Try.underlying5 Try.underlying3 rfl rfl ?_) ?_; (focus (first | exact E.wrap_u8 _ | (simp only [IntKind.wrap_i64, IntKind.wrap_u64, IntKind.wrap_u8]; omega)))
              refine E.QW.pure rfl rfl rfl (E.PV.move rfl rfl) ?_
              refine E.QW.pure rfl rfl rfl (E.PV.len Try.underlying31 rfl rfl) ?_
              refine E.QW.pure rfl rfl rfl (E.PV.rem_i64 rfl rfl rfl ?_ ?_) ?_; (focus (omega)); (focus (omega))
              refine E.QW.pure rfl rfl rfl (E.PV.move rfl rfl) ?_
              refine E.QW.pure rfl rfl rfl (E.PV.conv_in Try.underlying5 Try.underlying3 rfl rfl ?_) ?_; (focus (first | exact E.wrap_u8 _ | (simp only [IntKind.wrap_i64, IntKind.wrap_u64, IntKind.wrap_u8]; omega)))
              refine E.QW.pure rfl rfl rfl (E.PV.move rfl rfl) ?_
              refine E.QW.pure rfl rfl rfl (E.PV.len Try.underlying31 rfl rfl) ?_
              refine E.QW.pure rfl rfl rfl (E.PV.rem_i64 rfl rfl rfl ?_ ?_) ?_; (focus (omega)); (focus (omega))
              refine E.QW.pure rfl rfl rfl (E.PV.assign rfl rfl) ?_
              refine E.QW.pure rfl rfl rfl (E.PV.assign rfl rfl) ?_
              refine E.QW.nil ?_
              refine E.then_n ?_
              first | (refine E.CW.rowsome 0 rfl (by simp only [E.ints_length]; omega) (fun hsome => ?_); refine E.CW.put 16 (.int .i64 ((i.toNat % mT.q.h.length : Nat) : Int)) rfl (by simp) ?_; refine E.CW.put 17 (.int .i64 ((k.toNat % mT.q.h.length : Nat) : Int)) rfl (by simp) ?_; have hja := Nat.mod_lt i.toNat (show 0 < mT.q.h.length by omega); have hjb := Nat.mod_lt k.toNat (show 0 < mT.q.h.length by omega)) | (refine E.CW.rowsome 1 rfl (by simp only [E.ints_length]; omega) (fun hsome => ?_); refine E.CW.put 16 (.int .i64 ((i.toNat % mT.q.p.length : Nat) : Int)) rfl (by simp) ?_; refine E.CW.put 17 (.int .i64 ((k.toNat % mT.q.p.length : Nat) : Int)) rfl (by simp) ?_; have hja := Nat.mod_lt i.toNat (show 0 < mT.q.p.length by omega); have hjb := Nat.mod_lt k.toNat (show 0 < mT.q.p.length by omega)) | (refine E.CW.rowsome 2 rfl (by simp only [E.ints_length]; omega) (fun hsome => ?_); refine E.CW.put 16 (.int .i64 ((i.toNat % mT.q.d.length : Nat) : Int)) rfl (by simp) ?_; refine E.CW.put 17 (.int .i64 ((k.toNat % mT.q.d.length : Nat) : Int)) rfl (by simp) ?_; have hja := Nat.mod_lt i.toNat (show 0 < mT.q.d.length by omega); have hjb := Nat.mod_lt k.toNat (show 0 < mT.q.d.length by omega))
              refine E.CW.drawx mixed [] rfl ?_
              all_goals (refine E.AW.first 0 rfl (by kernel_rfl) (by kernel_rfl) (by kernel_rfl) rfl rfl rfl (E.PV.move rfl rfl) ?_)
              all_goals (refine E.AW.first 1 rfl (by kernel_rfl) (by kernel_rfl) (by kernel_rfl) rfl rfl rfl (E.PV.move rfl rfl) ?_)
              all_goals (refine E.AW.first 2 rfl (by kernel_rfl) (by kernel_rfl) (by kernel_rfl) rfl rfl rfl (E.PV.move rfl rfl) ?_)
              all_goals (refine E.AW.first 3 rfl (by kernel_rfl) (by kernel_rfl) (by kernel_rfl) rfl rfl rfl (E.PV.move rfl rfl) ?_)
              all_goals (refine E.AW.first 4 rfl (by kernel_rfl) (by kernel_rfl) (by kernel_rfl) rfl rfl rfl (E.PV.move rfl rfl) ?_)
              all_goals (refine E.AW.first 5 rfl (by kernel_rfl) (by kernel_rfl) (by kernel_rfl) rfl rfl rfl (E.PV.move rfl rfl) ?_)
              all_goals (refine E.AW.first 6 rfl (by kernel_rfl) (by kernel_rfl) (by kernel_rfl) rfl rfl rfl (E.PV.indexAddrS hsome Try.underlying31 in3 rfl rfl rfl (E.tn (by omega)) (by omega)) ?_)
              all_goals (refine E.AW.first 8 rfl (by kernel_rfl) (by kernel_rfl) (by kernel_rfl) rfl rfl rfl (E.PV.move rfl rfl) ?_)
              all_goals (refine E.AW.first 9 rfl (by kernel_rfl) (by kernel_rfl) (by kernel_rfl) rfl rfl rfl (E.PV.move rfl rfl) ?_)
              all_goals (refine E.AW.first 10 rfl (by kernel_rfl) (by kernel_rfl) (by kernel_rfl) rfl rfl rfl (E.PV.indexAddrS hsome Try.underlying31 in3 rfl rfl rfl (E.tn (by omega)) (by omega)) ?_)
              all_goals (
                refine E.AW.two 7 11 (by kernel_rfl) rfl rfl ?ga3 ?gb3
                case' ga3 =>
                    all_goals (refine E.OW.pure rfl rfl rfl (E.PV.load_int (E.rdr (i := 2) rfl) na3 rfl rfl ?_) ?_; (focus (omega)))
                    all_goals (refine E.AW.nil [] rfl ?_)
                    all_goals (refine E.AW.one 11 (by kernel_rfl) rfl ?_)
                    all_goals (refine E.OW.pure rfl rfl rfl (E.PV.load_int (E.rdr (i := 2) rfl) na3 rfl rfl ?_) ?_; (focus (omega)))
                    all_goals (refine E.AW.nil [] rfl ?_)
                    all_goals (refine E.AW.first 12 rfl (by kernel_rfl) (by kernel_rfl) (by kernel_rfl) rfl rfl rfl (E.PV.indexAddrS hsome Try.underlying31 in3 rfl rfl rfl (E.tn (by omega)) (by omega)) ?_)
                    all_goals (refine E.AW.one 13 (by kernel_rfl) rfl ?_)
                    all_goals (refine E.OW.store_int (i := 2) in3.size rfl rfl rfl rfl rfl rfl ?_ ?_; (focus (omega)))
                    all_goals (refine E.AW.nil [] rfl ?_)
                    all_goals (refine E.AW.first 14 rfl (by kernel_rfl) (by kernel_rfl) (by kernel_rfl) rfl rfl rfl (E.PV.indexAddrS hsome Try.underlying31 in3 rfl rfl rfl (E.tn (by omega)) (by omega)) ?_)
                    all_goals (refine E.AW.one 15 (by kernel_rfl) rfl ?_)
                    all_goals (refine E.OW.store_int (i := 0) in3.size rfl rfl rfl rfl rfl rfl ?_ ?_; (focus (omega)))
                    all_goals (refine E.AW.nil [] rfl ?_)
                    all_goals (refine E.AW.done (by kernel_rfl) ?_)
                case' gb3 =>
                    all_goals (refine E.OW.pure rfl rfl rfl (E.PV.load_int (E.rdr (i := 2) rfl) na3 rfl rfl ?_) ?_; (focus (omega)))
                    all_goals (refine E.AW.nil [] rfl ?_)
                    all_goals (refine E.AW.one 7 (by kernel_rfl) rfl ?_)
                    all_goals (refine E.OW.pure rfl rfl rfl (E.PV.load_int (E.rdr (i := 2) rfl) na3 rfl rfl ?_) ?_; (focus (omega)))
                    all_goals (refine E.AW.nil [] rfl ?_)
                    all_goals (refine E.AW.first 12 rfl (by kernel_rfl) (by kernel_rfl) (by kernel_rfl) rfl rfl rfl (E.PV.indexAddrS hsome Try.underlying31 in3 rfl rfl rfl (E.tn (by omega)) (by omega)) ?_)
                    all_goals (refine E.AW.one 13 (by kernel_rfl) rfl ?_)
                    all_goals (refine E.OW.store_int (i := 2) in3.size rfl rfl rfl rfl rfl rfl ?_ ?_; (focus (omega)))
                    all_goals (refine E.AW.nil [] rfl ?_)
                    all_goals (refine E.AW.first 14 rfl (by kernel_rfl) (by kernel_rfl) (by kernel_rfl) rfl rfl rfl (E.PV.indexAddrS hsome Try.underlying31 in3 rfl rfl rfl (E.tn (by omega)) (by omega)) ?_)
                    all_goals (refine E.AW.one 15 (by kernel_rfl) rfl ?_)
                    all_goals (refine E.OW.store_int (i := 0) in3.size rfl rfl rfl rfl rfl rfl ?_ ?_; (focus (omega)))
                    all_goals (refine E.AW.nil [] rfl ?_)
                    all_goals (refine E.AW.done (by kernel_rfl) ?_))
              all_goals (
                skip
                refine E.blk_n ?_
                refine E.then_n ?_
                first | (refine E.CW.chunk 0 (E.HP.row 3 1 mT.A3 mT.q.d.length mT.c3 (E.ints _)) rfl rfl ?_) | (refine E.CW.chunk 1 (E.HP.row 3 1 mT.A3 mT.q.d.length mT.c3 (E.ints _)) rfl rfl ?_) | (refine E.CW.chunk 2 (E.HP.row 3 1 mT.A3 mT.q.d.length mT.c3 (E.ints _)) rfl rfl ?_)
                first | (refine E.CW.chunk 0 (E.HP.row 3 1 mT.A2 mT.q.p.length mT.c2 (E.ints _)) rfl rfl ?_) | (refine E.CW.chunk 1 (E.HP.row 3 1 mT.A2 mT.q.p.length mT.c2 (E.ints _)) rfl rfl ?_) | (refine E.CW.chunk 2 (E.HP.row 3 1 mT.A2 mT.q.p.length mT.c2 (E.ints _)) rfl rfl ?_)
                first | (refine E.CW.chunk 0 (E.HP.row 3 1 mT.A1 mT.q.h.length mT.c1 (E.ints _)) rfl rfl ?_) | (refine E.CW.chunk 1 (E.HP.row 3 1 mT.A1 mT.q.h.length mT.c1 (E.ints _)) rfl rfl ?_) | (refine E.CW.chunk 2 (E.HP.row 3 1 mT.A1 mT.q.h.length mT.c1 (E.ints _)) rfl rfl ?_)
                refine E.CW.region ?_
                refine E.OW.pure rfl rfl rfl (E.PV.move rfl rfl) ?_
                refine E.OW.pure rfl rfl rfl (E.PV.add_i64 rfl rfl rfl ?_) ?_; (focus (omega))
                refine E.OW.pure rfl rfl rfl (E.PV.assign rfl rfl) ?_
                refine E.OW.nil ?_
                refine E.then_nf ?_
                refine ⟨_, [(14, _)], [0, 0, 0, 0, 0, 0, 0], _, ?_, by repeat (first | exact E.cov_nil | refine ⟨rfl, ?_⟩), rfl, n + 1, _, _, _, rfl, rfl, rfl, by omega, by first | assumption | exact (Cf.swp_perm (by omega) (by omega)).trans hph, by first | assumption | exact (Cf.swp_perm (by omega) (by omega)).trans hpp, by first | assumption | exact (Cf.swp_perm (by omega) (by omega)).trans hpd⟩
                omega))
          · simp only [E.b0, E.b1, E.b2, E.b3, E.b4, E.b5, E.b6, E.b7, E.b8, E.b9, E.b10, E.b11, E.b12, E.b13, E.b14, E.b15, E.b16, E.b17, E.b18, E.b19, E.b20, reduceCtorEq] at hc
            all_goals (
              refine E.CW.skip ?_
              refine E.blk_n ?_
              refine E.then_n ?_
              first | (refine E.CW.chunk 0 (E.HP.row 3 1 mT.A3 mT.q.d.length mT.c3 (E.ints _)) rfl rfl ?_) | (refine E.CW.chunk 1 (E.HP.row 3 1 mT.A3 mT.q.d.length mT.c3 (E.ints _)) rfl rfl ?_) | (refine E.CW.chunk 2 (E.HP.row 3 1 mT.A3 mT.q.d.length mT.c3 (E.ints _)) rfl rfl ?_)
              first | (refine E.CW.chunk 0 (E.HP.row 3 1 mT.A2 mT.q.p.length mT.c2 (E.ints _)) rfl rfl ?_) | (refine E.CW.chunk 1 (E.HP.row 3 1 mT.A2 mT.q.p.length mT.c2 (E.ints _)) rfl rfl ?_) | (refine E.CW.chunk 2 (E.HP.row 3 1 mT.A2 mT.q.p.length mT.c2 (E.ints _)) rfl rfl ?_)
              first | (refine E.CW.chunk 0 (E.HP.row 3 1 mT.A1 mT.q.h.length mT.c1 (E.ints _)) rfl rfl ?_) | (refine E.CW.chunk 1 (E.HP.row 3 1 mT.A1 mT.q.h.length mT.c1 (E.ints _)) rfl rfl ?_) | (refine E.CW.chunk 2 (E.HP.row 3 1 mT.A1 mT.q.h.length mT.c1 (E.ints _)) rfl rfl ?_)
              refine E.CW.region ?_
              refine E.OW.pure rfl rfl rfl (E.PV.move rfl rfl) ?_
              refine E.OW.pure rfl rfl rfl (E.PV.add_i64 rfl rfl rfl ?_) ?_; (focus (omega))
              refine E.OW.pure rfl rfl rfl (E.PV.assign rfl rfl) ?_
              refine E.OW.nil ?_
              refine E.then_nf ?_
              refine ⟨_, [(14, _)], [0, 0, 0, 0, 0, 0, 0], _, ?_, by repeat (first | exact E.cov_nil | refine ⟨rfl, ?_⟩), rfl, n + 1, _, _, _, rfl, rfl, rfl, by omega, by first | assumption | exact (Cf.swp_perm (by omega) (by omega)).trans hph, by first | assumption | exact (Cf.swp_perm (by omega) (by omega)).trans hpp, by first | assumption | exact (Cf.swp_perm (by omega) (by omega)).trans hpd⟩
              omega))
    · simp only [E.b0, E.b1, E.b2, E.b3, E.b4, E.b5, E.b6, E.b7, E.b8, E.b9, E.b10, E.b11, E.b12, E.b13, E.b14, E.b15, E.b16, E.b17, E.b18, E.b19, E.b20, reduceCtorEq] at hc
      all_goals (
        refine E.CW.exit ?_
        refine E.then_x ?_
        refine E.then_x ?_
        refine E.blk_eq ?_
        refine E.then_n ?_
        refine E.CW.seq ?_
        refine E.CW.chunk 2 (E.HP.row 3 1 mT.A3 yd.length mT.c3 (E.ints yd)) rfl (by rw [hpd.length_eq]) ?_
        refine E.CW.chunk 2 (E.HP.row 3 1 mT.A2 yp.length mT.c2 (E.ints yp)) rfl (by rw [hpp.length_eq]) ?_
        refine E.CW.chunk 2 (E.HP.row 3 1 mT.A1 yh.length mT.c1 (E.ints yh)) rfl (by rw [hph.length_eq]) ?_
        refine E.CW.gather [0, 0, 0, 0, 0, 0, 0] 3 rfl rfl ?_
        refine E.CW.chunk 0 (E.HP.tm (⟨⟨yh, yp, yd, mT.q.n1, mT.q.n2, mT.q.n3, mT.q.n4, mT.q.n5⟩, mT.A1, mT.A2, mT.A3, mT.c1, mT.c2, mT.c3⟩ : E.Tm)) rfl rfl ?_
        refine E.CW.chunk 2 (E.HP.blk B3 33 (⟨⟨yh, yp, yd, mT.q.n1, mT.q.n2, mT.q.n3, mT.q.n4, mT.q.n5⟩, mT.A1, mT.A2, mT.A3, mT.c1, mT.c2, mT.c3⟩ : E.Tm).cells) rfl (by rw [E.Tm.new_cells hph.length_eq hpp.length_eq hpd.length_eq]; rfl) ?_
        have hXf : (⟨⟨yh, yp, yd, mT.q.n1, mT.q.n2, mT.q.n3, mT.q.n4, mT.q.n5⟩, mT.A1, mT.A2, mT.A3, mT.c1, mT.c2, mT.c3⟩ : E.Tm).q.fit := Cf.fit_perm hTf hph hpp hpd rfl
        refine E.CW.draw mixed (by kernel_rfl) ?_
        refine E.QW.pure rfl rfl rfl (E.PV.move rfl rfl) ?_
        refine E.QW.pure rfl rfl rfl (E.PV.move rfl rfl) ?_
        all_goals (refine E.QW.put 64 (.bool true) (v := .bool true) rfl rfl ?_)
        all_goals (refine E.QW.pure rfl rfl rfl (E.PV.loads (i := 4) is24 rfl rfl rfl rfl) ?_)
        all_goals (refine E.QW.pure rfl rfl rfl (E.PV.move rfl rfl) ?_)
        all_goals (refine E.QW.pure rfl rfl rfl (E.PV.loads (i := 0) is33 rfl rfl rfl rfl) ?_)
        all_goals ((refine E.QW.call nm28 rfl rfl rfl rfl rfl rfl _ (fun w hw => E.Post.val (CT_ok _ _ _ _ l t (⟨⟨yh, yp, yd, mT.q.n1, mT.q.n2, mT.q.n3, mT.q.n4, mT.q.n5⟩, mT.A1, mT.A2, mT.A3, mT.c1, mT.c2, mT.c3⟩ : E.Tm) w ?_ ?_ ?_ ?_)) ?_; (focus (assumption)); (focus (refine hw.rd ?_; assumption)); (focus (exact hw.rdtm (i := 1) rfl)); (focus (assumption))))
        all_goals (refine E.QW.pure rfl rfl rfl (E.PV.loads (i := 4) is24 rfl rfl rfl rfl) ?_)
        all_goals (refine E.QW.pure rfl rfl rfl (E.PV.move rfl rfl) ?_)
        all_goals (refine E.QW.pure rfl rfl rfl (E.PV.loads (i := 3) is33 rfl rfl rfl rfl) ?_)
        all_goals ((refine E.QW.call nm28 rfl rfl rfl rfl rfl rfl _ (fun w hw => E.Post.val (CT_ok _ _ _ _ l t m w ?_ ?_ ?_ ?_)) ?_; (focus (assumption)); (focus (refine hw.rd ?_; assumption)); (focus (refine hw.rdm ?_; assumption)); (focus (assumption))))
        all_goals (refine E.QW.pure rfl rfl rfl (E.PV.eql rfl rfl rfl) ?_)
        all_goals (refine E.QW.pure rfl rfl rfl (E.PV.pick_t rfl rfl rfl) ?_)
        all_goals (refine E.QW.pure rfl rfl rfl (E.PV.assign rfl rfl) ?_)
        all_goals (
          refine E.QW.nil ?_
          refine E.then_n ?_
          refine E.CW.ret ?_
          refine E.KR.one [] Try.results10 rfl rfl ?_
          exact ⟨congrArg Value.bool (decide_eq_true ((Cf.checkTeam_perm (m := mT.q) (m2 := (⟨⟨yh, yp, yd, mT.q.n1, mT.q.n2, mT.q.n3, mT.q.n4, mT.q.n5⟩, mT.A1, mT.A2, mT.A3, mT.c1, mT.c2, mT.c3⟩ : E.Tm).q) hph hpp hpd rfl).trans (by rw [hmT]))), rfl⟩))
end Go.Proofs.Ytbdfljgnlendjaa
