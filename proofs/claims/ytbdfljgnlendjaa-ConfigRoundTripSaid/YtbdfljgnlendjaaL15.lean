/- Walks (printed by gen.py). -/
import Derived.Test.YtbdfljgnlendjaaG12
import Derived.Test.YtbdfljgnlendjaaCj
namespace Go.Proofs.Ytbdfljgnlendjaa
open Go Go.RowKit
set_option linter.unusedSimpArgs false
set_option linter.unusedVariables false

set_option maxRecDepth 100000 in
theorem ConfigRoundTrip_ok (g : E.Cfg) (n : Int) (A : Option Addr) (c : Nat) (b : List UInt8) (w0 : World) (hg : g.rd w0 (E.Old w0)) (hgf : g.q.fit) (hnb : Cf.i64 n) (hc8 : b.length ≤ c) (hl : b.length ≤ 140737488351232) (hX : E.Rd w0 (E.Old w0) A (E.u8s b)) :
    Calls Try.prog 14 #[g.v, .int .i64 n, .slice A b.length c] w0 (E.Post w0 (E.Old w0) fun v Hn => v = .bool true ∧ Hn = []) := by
  obtain ⟨hX1, hX2, hX3, hX4⟩ := id hg
  have hgl := E.Cfg.fit_len hgf
  have hnb1 := hnb.1
  have hnb2 := hnb.2
  have hst := hgf.st.1
  have hst2 : 0 ≤ g.q.st := hst
  refine E.calls_of (vs := [g.v, .int .i64 n, .slice A b.length c]) (H := []) Try.func14 Try.ntmps14 rfl rfl (E.HA.start w0) ?_
  refine E.CW.seq ?_
  refine E.CW.region ?_
  refine E.OW.box rfl rfl rfl rfl rfl rfl (fun B1 => ?_)
  refine E.OW.pure rfl rfl rfl (E.PV.assign rfl rfl) ?_
  refine E.OW.nil ?_
  refine E.then_n ?_
  refine E.CW.seq ?_
  refine E.CW.region ?_
  (refine E.OW.call nm45 rfl rfl rfl rfl rfl rfl _ (fun w hw => alive_ok w) ?_; rintro _ _ ⟨rfl, rfl⟩)
  refine E.OW.pure rfl rfl rfl (E.PV.assign rfl rfl) ?_
  refine E.OW.nil ?_
  refine E.then_n ?_
  refine E.CW.cut [2, 7] 0 rfl rfl (fun mods Hm =>  mods = [] ∧ Hm = [] ∧ True) ?_ ?_
  · skip
    refine E.CW.seq ?_
    refine E.CW.region ?_
    refine E.OW.pure rfl rfl rfl (E.PV.loads (i := 0) is28 rfl rfl rfl rfl) ?_
    (refine E.OW.call nm34 rfl rfl rfl rfl rfl rfl _ (fun w hw => rCk_ok _ w ?_ ?_) ?_; (focus (refine hw.rdC ?_; assumption)); (focus (assumption)); rintro _ _ ⟨rfl, rfl⟩)
    refine E.OW.pure rfl rfl rfl (E.PV.eql rfl rfl rfl) ?_
    refine E.OW.nil ?_
    refine E.then_n ?_
    refine E.CW.cond rfl (fun hc => ?_) (fun hc => ?_)
    · simp only [E.b0, E.b1, E.b2, E.b3, E.b4, E.b5, E.b6, E.b7, E.b8, E.b9, E.b10, E.b11, E.b12, E.b13, E.b14, E.b15, E.b16, E.b17, E.b18, E.b19, E.b20, reduceCtorEq] at hc
      all_goals (
        refine E.CW.seq ?_
        have hz : Cf.check g.q = 0 := by first | assumption | omega
        have hE := Cf.encR_ok hz
        have hel := Cf.enc_len hz
        have hD0 := Cf.dec_enc hz hst2
        have hD1 := Cf.dec_more1 hz hst2 (Cf.byt (n.tmod 256))
        refine E.CW.region ?_
        refine E.OW.pure rfl rfl rfl (E.PV.loads (i := 0) is28 rfl rfl rfl rfl) ?_
        (refine E.OW.call nm39 rfl rfl rfl rfl rfl rfl _ (fun w hw => En_ok g w ?_ ?_) ?_; (focus (refine hw.rdC ?_; assumption)); (focus (assumption)); rintro _ _ ⟨AEn, cEn, rfl, rfl⟩)
        refine E.OW.pure rfl rfl rfl (E.PV.move rfl rfl) ?_
        refine E.OW.pure rfl rfl rfl (E.PV.extract rfl rfl rfl) ?_
        refine E.OW.pure rfl rfl rfl (E.PV.extract rfl rfl rfl) ?_
        refine E.OW.pure rfl rfl rfl (E.PV.assign rfl rfl) ?_
        refine E.OW.pure rfl rfl rfl (E.PV.assign rfl rfl) ?_
        refine E.OW.nil ?_
        refine E.then_n ?_
        refine E.CW.seq ?_
        refine E.CW.put 8 (.slice AEn (Cf.enc g.q).length cEn) rfl (congrArg (fun x : List UInt8 × Int => Value.slice AEn x.1.length cEn) hE) ?_
        refine E.CW.put 9 (.int .i64 0) rfl (congrArg (fun x : List UInt8 × Int => Value.int .i64 x.2) hE) ?_
        refine E.CW.chunk 0 (E.HP.row 5 1 AEn (Cf.enc g.q).length cEn (E.u8s (Cf.enc g.q))) rfl (congrArg (fun x : List UInt8 × Int => E.HP.row 5 1 AEn x.1.length cEn (E.u8s x.1)) hE) ?_
        refine E.CW.cap 0 rfl (fun hcEn => ?_)
        refine E.CW.region ?_
        refine E.OW.pure rfl rfl rfl (E.PV.move rfl rfl) ?_
        (refine E.OW.call nm41 rfl rfl rfl rfl rfl rfl _ (fun w hw => De_ok _ _ (Cf.enc g.q) w ?_ ?_ ?_) ?_; (focus (assumption)); (focus (omega)); (focus (exact hw.rdrow (i := 0) rfl)); rintro _ _ ⟨gD0, rfl, rfl, hgD0, hfD0⟩)
        refine E.OW.pure rfl rfl rfl (E.PV.move rfl rfl) ?_
        refine E.OW.pure rfl rfl rfl (E.PV.extract rfl rfl rfl) ?_
        refine E.OW.pure rfl rfl rfl (E.PV.extract rfl rfl rfl) ?_
        refine E.OW.alloc (in28.zr) rfl rfl rfl rfl rfl (fun B2 => ?_)
        refine E.OW.store (i := 0) in28.size rfl rfl rfl rfl rfl rfl rfl rfl rfl ?_
        refine E.OW.pure rfl rfl rfl (E.PV.assign rfl rfl) ?_
        refine E.OW.nil ?_
        refine E.then_n ?_
        refine E.CW.seq ?_
        refine E.CW.seq ?_
        refine E.CW.put 11 (.int .i64 0) rfl (congrArg (fun x : Cf.C × Int => Value.int .i64 x.2) hD0) ?_
        have hq0 : g.q = gD0.q := (hgD0.trans (congrArg Prod.fst hD0)).symm
        refine E.CW.region ?_
        refine E.OW.pure rfl rfl rfl (E.PV.move rfl rfl) ?_
        refine E.OW.pure rfl rfl rfl (E.PV.neq rfl rfl rfl) ?_
        refine E.OW.pure rfl rfl rfl (E.PV.move rfl rfl) ?_
        all_goals (refine E.OW.put 36 (.bool false) (v := .bool false) rfl rfl ?_)
        all_goals (refine E.OW.pure rfl rfl rfl (E.PV.move rfl rfl) ?_)
        all_goals (refine E.OW.pure rfl rfl rfl (E.PV.neq rfl rfl rfl) ?_)
        all_goals (refine E.OW.pure rfl rfl rfl (E.PV.pick_f rfl rfl rfl) ?_)
        all_goals (refine E.OW.pure rfl rfl rfl (E.PV.move rfl rfl) ?_)
        all_goals (refine E.OW.put 40 (.bool false) (v := .bool false) rfl rfl ?_)
        all_goals (refine E.OW.pure rfl rfl rfl (E.PV.loads (i := 3) is28 rfl rfl rfl rfl) ?_)
        all_goals (refine E.OW.pure rfl rfl rfl (E.PV.loads (i := 0) is28 rfl rfl rfl rfl) ?_)
        all_goals ((refine E.OW.call nm20 rfl rfl rfl rfl rfl rfl _ (fun w hw => rSameC_ok g gD0 w ?_ ?_ ?_ ?_) ?_; (focus (refine hw.rdC ?_; assumption)); (focus (exact hw.rdcfg (i := 1) rfl)); (focus (assumption)); (focus (assumption)); rintro _ _ ⟨rfl, rfl⟩))
        all_goals (refine E.OW.put 43 (.bool true) rfl (congrArg Value.bool (decide_eq_true hq0)) ?_)
        all_goals (refine E.OW.pure rfl rfl rfl (E.PV.not rfl rfl) ?_)
        all_goals (refine E.OW.pure rfl rfl rfl (E.PV.pick_f rfl rfl rfl) ?_)
        all_goals (refine E.OW.pure rfl rfl rfl (E.PV.move rfl rfl) ?_)
        all_goals (refine E.OW.put 46 (.bool false) (v := .bool false) rfl rfl ?_)
        all_goals (refine E.OW.pure rfl rfl rfl (E.PV.move rfl rfl) ?_)
        all_goals (refine E.OW.pure rfl rfl rfl (E.PV.len Try.underlying22 rfl rfl) ?_)
        all_goals (refine E.OW.pure rfl rfl rfl (E.PV.eql rfl rfl rfl) ?_)
        all_goals (refine E.OW.pure rfl rfl rfl (E.PV.pick_f rfl rfl rfl) ?_)
        all_goals (refine E.OW.pure rfl rfl rfl (E.PV.move rfl rfl) ?_)
        all_goals (refine E.OW.put 51 (.bool false) (v := .bool false) rfl rfl ?_)
        all_goals (refine E.OW.pure rfl rfl rfl (E.PV.move rfl rfl) ?_)
        all_goals (refine E.OW.pure rfl rfl rfl (E.PV.len Try.underlying22 rfl rfl) ?_)
        all_goals (refine E.OW.pure rfl rfl rfl (E.PV.geq rfl rfl rfl) ?_)
        all_goals (refine E.OW.pure rfl rfl rfl (E.PV.pick_f rfl rfl rfl) ?_)
        all_goals (
          refine E.OW.nil ?_
          refine E.then_n ?_
          refine E.CW.cond rfl (fun hc => ?_) (fun hc => ?_)
          · simp only [E.b0, E.b1, E.b2, E.b3, E.b4, E.b5, E.b6, E.b7, E.b8, E.b9, E.b10, E.b11, E.b12, E.b13, E.b14, E.b15, E.b16, E.b17, E.b18, E.b19, E.b20, reduceCtorEq] at hc
            all_goals (exfalso; omega)
          · simp only [E.b0, E.b1, E.b2, E.b3, E.b4, E.b5, E.b6, E.b7, E.b8, E.b9, E.b10, E.b11, E.b12, E.b13, E.b14, E.b15, E.b16, E.b17, E.b18, E.b19, E.b20, reduceCtorEq] at hc
            all_goals (
              refine E.CW.skip ?_
              refine E.then_n ?_
              refine E.CW.seq ?_
              refine E.CW.region ?_
              refine E.OW.buildSlice (Et := 5) (sz := 1) (cs := E.u8s []) (ps := []) rfl rfl rfl rfl rfl rfl (by unfold maxLen; omega) (fun w => bsl22_0_ w) (fun AL => ?_)
              refine E.OW.pure rfl rfl rfl (E.PV.move rfl rfl) ?_
              refine E.OW.append0 (i := 0) Try.underlying22 in5 rfl rfl (by decide) rfl rfl rfl rfl rfl rfl rfl (E.rdr (i := 3) rfl) ?_ ?_ ?_ ?_ (fun A4 c4 => ?_); (focus ((first | rfl | (simp; done) | omega))); (focus ((first | exact E.ints_one | exact E.u8s_one | (simp [Value.oneCell']; done)))); (focus ((unfold maxLen; omega))); (focus ((first | omega | (simp only [List.length_append, List.length_cons, List.length_nil] at *; omega) | (unfold maxLen at *; omega))))
              refine E.OW.pure rfl rfl rfl (E.PV.move rfl rfl) ?_
              refine E.OW.pure rfl rfl rfl (E.PV.rem_any rfl rfl rfl (by decide)) ?_
              refine E.OW.pure rfl rfl rfl (E.PV.conv Try.underlying3 Try.underlying5 rfl rfl) ?_
              refine E.OW.put 62 (.int .u8 ((Cf.byt (n.tmod 256)).toNat : Int)) rfl (congrArg (Value.int .u8) (Cf.byt_wrap _)) ?_
              refine E.OW.buildSlice (Et := 5) (sz := 1) (cs := E.u8s ([Cf.byt (n.tmod 256)])) (ps := [(0, .tmp 62)]) rfl rfl rfl rfl rfl rfl (by unfold maxLen; omega) (fun w => bsl22_1_0 _ w) (fun A5 => ?_); refine E.OW.chunk 0 (E.HP.row 5 1 A5 (List.length ([Cf.byt (n.tmod 256)])) 1 (E.u8s ([Cf.byt (n.tmod 256)]))) rfl rfl ?_; refine E.OW.put 63 (.slice A5 (List.length ([Cf.byt (n.tmod 256)])) 1) rfl rfl ?_
              refine E.OW.app_u8 (i := 1) Try.underlying22 in5 rfl rfl rfl rfl rfl rfl rfl rfl rfl (E.rdr (i := 0) rfl) ?_ (fun A6 c6 => ?_); (focus ((first | omega | (simp only [List.length_append, List.length_cons, List.length_nil] at *; omega) | (unfold maxLen at *; omega))))
              (refine E.OW.call nm41 rfl rfl rfl rfl rfl rfl _ (fun w hw => De_ok _ _ ((Cf.enc g.q) ++ [Cf.byt (n.tmod 256)]) w ?_ ?_ ?_) ?_; (focus (exact hw.rowcap (i := 0) rfl)); (focus (simp only [List.length_append, List.length_cons, List.length_nil] at *; omega)); (focus (exact hw.rdrow (i := 0) rfl)); rintro _ _ ⟨gD1, rfl, rfl, hgD1, hfD1⟩)
              refine E.OW.pure rfl rfl rfl (E.PV.move rfl rfl) ?_
              refine E.OW.pure rfl rfl rfl (E.PV.extract rfl rfl rfl) ?_
              refine E.OW.pure rfl rfl rfl (E.PV.extract rfl rfl rfl) ?_
              refine E.OW.alloc (in28.zr) rfl rfl rfl rfl rfl (fun B7 => ?_)
              refine E.OW.store (i := 0) in28.size rfl rfl rfl rfl rfl rfl rfl rfl rfl ?_
              refine E.OW.pure rfl rfl rfl (E.PV.assign rfl rfl) ?_
              refine E.OW.nil ?_
              refine E.then_n ?_
              refine E.CW.seq ?_
              refine E.CW.seq ?_
              refine E.CW.put 13 (.int .i64 11) rfl (congrArg (fun x : Cf.C × Int => Value.int .i64 x.2) hD1) ?_
              refine E.CW.region ?_
              refine E.OW.pure rfl rfl rfl (E.PV.move rfl rfl) ?_
              refine E.OW.pure rfl rfl rfl (E.PV.neq rfl rfl rfl) ?_
              refine E.OW.nil ?_
              refine E.then_n ?_
              refine E.CW.cond rfl (fun hc => ?_) (fun hc => ?_)
              · (cases hc; done)
              · simp only [E.b0, E.b1, E.b2, E.b3, E.b4, E.b5, E.b6, E.b7, E.b8, E.b9, E.b10, E.b11, E.b12, E.b13, E.b14, E.b15, E.b16, E.b17, E.b18, E.b19, E.b20, reduceCtorEq] at hc
                all_goals (
                  refine E.CW.skip ?_
                  refine E.then_n ?_
                  refine E.CW.seq ?_
                  refine E.CW.region ?_
                  refine E.OW.pure rfl rfl rfl (E.PV.move rfl rfl) ?_
                  refine E.OW.pure rfl rfl rfl (E.PV.geq rfl rfl rfl) ?_
                  refine E.OW.pure rfl rfl rfl (E.PV.move rfl rfl) ?_
                  all_goals (refine E.OW.split 72 rfl (fun hc => ?_) (fun hc => ?_) <;> (try simp only [E.b0, E.b1, E.b2, E.b3, E.b4, E.b5, E.b6, E.b7, E.b8, E.b9, E.b10, E.b11, E.b12, E.b13, E.b14, E.b15, E.b16, E.b17, E.b18, E.b19, E.b20, reduceCtorEq] at hc) <;> (try (exfalso; first | assumption | contradiction | omega)))
                  all_goals (first | (refine E.OW.off rfl rfl rfl ?_) | (refine E.OW.pure rfl rfl rfl (E.PV.move rfl rfl) ?_))
                  all_goals (first | (refine E.OW.off rfl rfl rfl ?_) | (refine E.OW.pure rfl rfl rfl (E.PV.move rfl rfl) ?_))
                  all_goals (first | (refine E.OW.off rfl rfl rfl ?_) | (refine E.OW.pure rfl rfl rfl (E.PV.len Try.underlying22 rfl rfl) ?_))
                  all_goals (first | (refine E.OW.off rfl rfl rfl ?_) | (refine E.OW.pure rfl rfl rfl (E.PV.lss rfl rfl rfl) ?_))
                  all_goals (first | (refine E.OW.pure rfl rfl rfl (E.PV.pick_t rfl rfl rfl) ?_) | (refine E.OW.pure rfl rfl rfl (E.PV.pick_f rfl rfl rfl) ?_))
                  all_goals (
                    refine E.OW.nil ?_
                    refine E.then_n ?_
                    refine E.CW.cond rfl (fun hc => ?_) (fun hc => ?_)
                    · first | ((cases hc; done)) | (simp only [E.b0, E.b1, E.b2, E.b3, E.b4, E.b5, E.b6, E.b7, E.b8, E.b9, E.b10, E.b11, E.b12, E.b13, E.b14, E.b15, E.b16, E.b17, E.b18, E.b19, E.b20, reduceCtorEq] at hc)
                      all_goals (
                        refine E.CW.seq ?_
                        refine E.CW.put 1 (.int .i64 (n.toNat : Int)) rfl (congrArg (Value.int .i64) (by omega)) ?_
                        have hD2 := Cf.dec_less hz hst2 (n := n.toNat) (by omega)
                        refine E.CW.region ?_
                        refine E.OW.pure rfl rfl rfl (E.PV.move rfl rfl) ?_
                        refine E.OW.pure rfl rfl rfl (E.PV.move rfl rfl) ?_
                        refine E.OW.pure rfl rfl rfl (E.PV.sub0 Try.underlying22 in5 rfl rfl rfl (by omega)) ?_
                        refine E.OW.put 81 (.slice AEn ((Cf.enc g.q).take n.toNat).length cEn) rfl (by rw [List.length_take, Nat.min_eq_left (by omega)]) ?_
                        (refine E.OW.call nm41 rfl rfl rfl rfl rfl rfl _ (fun w hw => De_ok _ _ ((Cf.enc g.q).take n.toNat) w (by rw [List.length_take]; omega) (by rw [List.length_take]; omega) (by first | exact E.rd_take (hw.rdrow (i := 0) rfl) | exact E.rd_take (hw.rdrow (i := 1) rfl) | exact E.rd_take (hw.rdrow (i := 2) rfl) | exact E.rd_take (hw.rdrow (i := 3) rfl) | exact E.rd_take (hw.rdrow (i := 4) rfl) | exact E.rd_take (hw.rdrow (i := 5) rfl) | exact E.rd_take (hw.rdrow (i := 6) rfl) | exact E.rd_take (hw.rdrow (i := 7) rfl) | exact E.rd_take (hw.rdrow (i := 8) rfl))) ?_; rintro _ _ ⟨gD2, rfl, rfl, hgD2, hfD2⟩)
                        refine E.OW.pure rfl rfl rfl (E.PV.move rfl rfl) ?_
                        refine E.OW.pure rfl rfl rfl (E.PV.extract rfl rfl rfl) ?_
                        refine E.OW.pure rfl rfl rfl (E.PV.extract rfl rfl rfl) ?_
                        refine E.OW.alloc (in28.zr) rfl rfl rfl rfl rfl (fun B8 => ?_)
                        refine E.OW.store (i := 0) in28.size rfl rfl rfl rfl rfl rfl rfl rfl rfl ?_
                        refine E.OW.pure rfl rfl rfl (E.PV.assign rfl rfl) ?_
                        refine E.OW.nil ?_
                        refine E.then_n ?_
                        refine E.CW.seq ?_
                        refine E.CW.put 15 (.int .i64 10) rfl (congrArg (fun x : Cf.C × Int => Value.int .i64 x.2) hD2) ?_
                        refine E.CW.region ?_
                        refine E.OW.pure rfl rfl rfl (E.PV.move rfl rfl) ?_
                        refine E.OW.pure rfl rfl rfl (E.PV.neq rfl rfl rfl) ?_
                        refine E.OW.nil ?_
                        refine E.then_n ?_
                        refine E.CW.cond rfl (fun hc => ?_) (fun hc => ?_)
                        · (cases hc; done)
                        · simp only [E.b0, E.b1, E.b2, E.b3, E.b4, E.b5, E.b6, E.b7, E.b8, E.b9, E.b10, E.b11, E.b12, E.b13, E.b14, E.b15, E.b16, E.b17, E.b18, E.b19, E.b20, reduceCtorEq] at hc
                          all_goals (
                            refine E.CW.skip ?_
                            refine E.then_nf ?_
                            first | (refine ⟨[], [0], _, by repeat (first | exact E.cov_nil | refine ⟨rfl, ?_⟩), rfl, rfl, rfl, trivial⟩) | (refine ⟨[], [1], _, by repeat (first | exact E.cov_nil | refine ⟨rfl, ?_⟩), rfl, rfl, rfl, trivial⟩) | (refine ⟨[], [2], _, by repeat (first | exact E.cov_nil | refine ⟨rfl, ?_⟩), rfl, rfl, rfl, trivial⟩) | (refine ⟨[], [3], _, by repeat (first | exact E.cov_nil | refine ⟨rfl, ?_⟩), rfl, rfl, rfl, trivial⟩) | (refine ⟨[], [4], _, by repeat (first | exact E.cov_nil | refine ⟨rfl, ?_⟩), rfl, rfl, rfl, trivial⟩) | (refine ⟨[], [5], _, by repeat (first | exact E.cov_nil | refine ⟨rfl, ?_⟩), rfl, rfl, rfl, trivial⟩) | (refine ⟨[], [6], _, by repeat (first | exact E.cov_nil | refine ⟨rfl, ?_⟩), rfl, rfl, rfl, trivial⟩) | (refine ⟨[], [7], _, by repeat (first | exact E.cov_nil | refine ⟨rfl, ?_⟩), rfl, rfl, rfl, trivial⟩) | (refine ⟨[], [8], _, by repeat (first | exact E.cov_nil | refine ⟨rfl, ?_⟩), rfl, rfl, rfl, trivial⟩) | (refine ⟨[], [9], _, by repeat (first | exact E.cov_nil | refine ⟨rfl, ?_⟩), rfl, rfl, rfl, trivial⟩) | (refine ⟨[], [10], _, by repeat (first | exact E.cov_nil | refine ⟨rfl, ?_⟩), rfl, rfl, rfl, trivial⟩) | (refine ⟨[], [11], _, by repeat (first | exact E.cov_nil | refine ⟨rfl, ?_⟩), rfl, rfl, rfl, trivial⟩)))
                    · simp only [E.b0, E.b1, E.b2, E.b3, E.b4, E.b5, E.b6, E.b7, E.b8, E.b9, E.b10, E.b11, E.b12, E.b13, E.b14, E.b15, E.b16, E.b17, E.b18, E.b19, E.b20, reduceCtorEq] at hc
                      all_goals (
                        refine E.CW.skip ?_
                        refine E.then_nf ?_
                        first | (refine ⟨[], [0], _, by repeat (first | exact E.cov_nil | refine ⟨rfl, ?_⟩), rfl, rfl, rfl, trivial⟩) | (refine ⟨[], [1], _, by repeat (first | exact E.cov_nil | refine ⟨rfl, ?_⟩), rfl, rfl, rfl, trivial⟩) | (refine ⟨[], [2], _, by repeat (first | exact E.cov_nil | refine ⟨rfl, ?_⟩), rfl, rfl, rfl, trivial⟩) | (refine ⟨[], [3], _, by repeat (first | exact E.cov_nil | refine ⟨rfl, ?_⟩), rfl, rfl, rfl, trivial⟩) | (refine ⟨[], [4], _, by repeat (first | exact E.cov_nil | refine ⟨rfl, ?_⟩), rfl, rfl, rfl, trivial⟩) | (refine ⟨[], [5], _, by repeat (first | exact E.cov_nil | refine ⟨rfl, ?_⟩), rfl, rfl, rfl, trivial⟩) | (refine ⟨[], [6], _, by repeat (first | exact E.cov_nil | refine ⟨rfl, ?_⟩), rfl, rfl, rfl, trivial⟩) | (refine ⟨[], [7], _, by repeat (first | exact E.cov_nil | refine ⟨rfl, ?_⟩), rfl, rfl, rfl, trivial⟩) | (refine ⟨[], [8], _, by repeat (first | exact E.cov_nil | refine ⟨rfl, ?_⟩), rfl, rfl, rfl, trivial⟩) | (refine ⟨[], [9], _, by repeat (first | exact E.cov_nil | refine ⟨rfl, ?_⟩), rfl, rfl, rfl, trivial⟩) | (refine ⟨[], [10], _, by repeat (first | exact E.cov_nil | refine ⟨rfl, ?_⟩), rfl, rfl, rfl, trivial⟩) | (refine ⟨[], [11], _, by repeat (first | exact E.cov_nil | refine ⟨rfl, ?_⟩), rfl, rfl, rfl, trivial⟩)))))))
    · simp only [E.b0, E.b1, E.b2, E.b3, E.b4, E.b5, E.b6, E.b7, E.b8, E.b9, E.b10, E.b11, E.b12, E.b13, E.b14, E.b15, E.b16, E.b17, E.b18, E.b19, E.b20, reduceCtorEq] at hc
      all_goals (
        refine E.CW.skip ?_
        refine E.then_nf ?_
        first | (refine ⟨[], [0], _, by repeat (first | exact E.cov_nil | refine ⟨rfl, ?_⟩), rfl, rfl, rfl, trivial⟩) | (refine ⟨[], [1], _, by repeat (first | exact E.cov_nil | refine ⟨rfl, ?_⟩), rfl, rfl, rfl, trivial⟩) | (refine ⟨[], [2], _, by repeat (first | exact E.cov_nil | refine ⟨rfl, ?_⟩), rfl, rfl, rfl, trivial⟩) | (refine ⟨[], [3], _, by repeat (first | exact E.cov_nil | refine ⟨rfl, ?_⟩), rfl, rfl, rfl, trivial⟩) | (refine ⟨[], [4], _, by repeat (first | exact E.cov_nil | refine ⟨rfl, ?_⟩), rfl, rfl, rfl, trivial⟩) | (refine ⟨[], [5], _, by repeat (first | exact E.cov_nil | refine ⟨rfl, ?_⟩), rfl, rfl, rfl, trivial⟩) | (refine ⟨[], [6], _, by repeat (first | exact E.cov_nil | refine ⟨rfl, ?_⟩), rfl, rfl, rfl, trivial⟩) | (refine ⟨[], [7], _, by repeat (first | exact E.cov_nil | refine ⟨rfl, ?_⟩), rfl, rfl, rfl, trivial⟩) | (refine ⟨[], [8], _, by repeat (first | exact E.cov_nil | refine ⟨rfl, ?_⟩), rfl, rfl, rfl, trivial⟩) | (refine ⟨[], [9], _, by repeat (first | exact E.cov_nil | refine ⟨rfl, ?_⟩), rfl, rfl, rfl, trivial⟩) | (refine ⟨[], [10], _, by repeat (first | exact E.cov_nil | refine ⟨rfl, ?_⟩), rfl, rfl, rfl, trivial⟩) | (refine ⟨[], [11], _, by repeat (first | exact E.cov_nil | refine ⟨rfl, ?_⟩), rfl, rfl, rfl, trivial⟩))
  · rintro _ _ ⟨rfl, rfl, _⟩
    refine E.CW.seq ?_
    refine E.CW.region ?_
    refine E.OW.pure rfl rfl rfl (E.PV.move rfl rfl) ?_
    (refine E.OW.call nm41 rfl rfl rfl rfl rfl rfl _ (fun w hw => De_ok _ _ b w ?_ ?_ ?_) ?_; (focus (assumption)); (focus (assumption)); (focus (refine hw.rd ?_; assumption)); rintro _ _ ⟨gD3, rfl, rfl, hgD3, hfD3⟩)
    refine E.OW.pure rfl rfl rfl (E.PV.move rfl rfl) ?_
    refine E.OW.pure rfl rfl rfl (E.PV.extract rfl rfl rfl) ?_
    refine E.OW.pure rfl rfl rfl (E.PV.extract rfl rfl rfl) ?_
    refine E.OW.alloc (in28.zr) rfl rfl rfl rfl rfl (fun B9 => ?_)
    refine E.OW.store (i := 0) in28.size rfl rfl rfl rfl rfl rfl rfl rfl rfl ?_
    refine E.OW.pure rfl rfl rfl (E.PV.assign rfl rfl) ?_
    refine E.OW.nil ?_
    refine E.then_n ?_
    refine E.CW.seq ?_
    refine E.CW.seq ?_
    refine E.CW.region ?_
    refine E.OW.pure rfl rfl rfl (E.PV.move rfl rfl) ?_
    refine E.OW.pure rfl rfl rfl (E.PV.neq rfl rfl rfl) ?_
    refine E.OW.nil ?_
    refine E.then_n ?_
    refine E.CW.cond rfl (fun hc => ?_) (fun hc => ?_)
    · simp only [E.b0, E.b1, E.b2, E.b3, E.b4, E.b5, E.b6, E.b7, E.b8, E.b9, E.b10, E.b11, E.b12, E.b13, E.b14, E.b15, E.b16, E.b17, E.b18, E.b19, E.b20, reduceCtorEq] at hc
      all_goals (
        refine E.CW.seq ?_
        refine E.CW.region ?_
        refine E.OW.pure rfl rfl rfl (E.PV.move rfl rfl) ?_
        refine E.OW.pure rfl rfl rfl (E.PV.assign rfl rfl) ?_
        refine E.OW.nil ?_
        refine E.then_n ?_
        refine E.CW.ret ?_
        refine E.then_ret ?_
        refine E.KR.one [] Try.results14 rfl rfl ?_
        exact ⟨rfl, rfl⟩)
    · simp only [E.b0, E.b1, E.b2, E.b3, E.b4, E.b5, E.b6, E.b7, E.b8, E.b9, E.b10, E.b11, E.b12, E.b13, E.b14, E.b15, E.b16, E.b17, E.b18, E.b19, E.b20, reduceCtorEq] at hc
      all_goals (
        refine E.CW.skip ?_
        refine E.then_n ?_
        refine E.CW.seq ?_
        obtain ⟨hz3, he3⟩ := Cf.dec_pair (b := b) (by assumption)
        have hzD : Cf.check gD3.q = 0 := by rw [hgD3]; exact hz3
        have heD : Cf.encR gD3.q = (b, 0) := by rw [Cf.encR_ok hzD, hgD3, he3]
        refine E.CW.region ?_
        refine E.OW.pure rfl rfl rfl (E.PV.loads (i := 0) is28 rfl rfl rfl rfl) ?_
        (refine E.OW.call nm39 rfl rfl rfl rfl rfl rfl _ (fun w hw => En_ok gD3 w ?_ ?_) ?_; (focus (exact hw.rdcfg (i := 1) rfl)); (focus (assumption)); rintro _ _ ⟨AE2, cE2, rfl, rfl⟩)
        refine E.OW.pure rfl rfl rfl (E.PV.move rfl rfl) ?_
        refine E.OW.pure rfl rfl rfl (E.PV.extract rfl rfl rfl) ?_
        refine E.OW.pure rfl rfl rfl (E.PV.extract rfl rfl rfl) ?_
        refine E.OW.pure rfl rfl rfl (E.PV.assign rfl rfl) ?_
        refine E.OW.pure rfl rfl rfl (E.PV.assign rfl rfl) ?_
        refine E.OW.nil ?_
        refine E.then_n ?_
        refine E.CW.seq ?_
        refine E.CW.put 18 (.slice AE2 b.length cE2) rfl (congrArg (fun x : List UInt8 × Int => Value.slice AE2 x.1.length cE2) heD) ?_
        refine E.CW.put 19 (.int .i64 0) rfl (congrArg (fun x : List UInt8 × Int => Value.int .i64 x.2) heD) ?_
        refine E.CW.chunk 0 (E.HP.row 5 1 AE2 b.length cE2 (E.u8s b)) rfl (congrArg (fun x : List UInt8 × Int => E.HP.row 5 1 AE2 x.1.length cE2 (E.u8s x.1)) heD) ?_
        refine E.CW.region ?_
        refine E.OW.pure rfl rfl rfl (E.PV.move rfl rfl) ?_
        refine E.OW.pure rfl rfl rfl (E.PV.move rfl rfl) ?_
        all_goals (refine E.OW.put 101 (.bool true) (v := .bool true) rfl rfl ?_)
        all_goals (refine E.OW.pure rfl rfl rfl (E.PV.loads (i := 1) is28 rfl rfl rfl rfl) ?_)
        all_goals ((refine E.OW.call nm33 rfl rfl rfl rfl rfl rfl _ (fun w hw => Ck_ok gD3 w ?_ ?_) ?_; (focus (exact hw.rdcfg (i := 2) rfl)); (focus (assumption)); rintro _ _ ⟨rfl, rfl⟩))
        all_goals (refine E.OW.put 103 (.int .i64 0) rfl (congrArg (Value.int .i64) hzD) ?_)
        all_goals (refine E.OW.pure rfl rfl rfl (E.PV.eql rfl rfl rfl) ?_)
        all_goals (refine E.OW.pure rfl rfl rfl (E.PV.pick_t rfl rfl rfl) ?_)
        all_goals (refine E.OW.pure rfl rfl rfl (E.PV.move rfl rfl) ?_)
        all_goals (refine E.OW.put 106 (.bool true) (v := .bool true) rfl rfl ?_)
        all_goals (refine E.OW.pure rfl rfl rfl (E.PV.move rfl rfl) ?_)
        all_goals (refine E.OW.pure rfl rfl rfl (E.PV.eql rfl rfl rfl) ?_)
        all_goals (refine E.OW.pure rfl rfl rfl (E.PV.pick_t rfl rfl rfl) ?_)
        all_goals (refine E.OW.pure rfl rfl rfl (E.PV.move rfl rfl) ?_)
        all_goals (refine E.OW.put 110 (.bool true) (v := .bool true) rfl rfl ?_)
        all_goals (refine E.OW.pure rfl rfl rfl (E.PV.move rfl rfl) ?_)
        all_goals (refine E.OW.pure rfl rfl rfl (E.PV.b2s Try.underlying22 Try.underlying5 Try.underlying9 (E.rdr (i := 0) rfl) ?_ rfl rfl) ?_; (focus (simp)))
        all_goals (refine E.OW.pure rfl rfl rfl (E.PV.move rfl rfl) ?_)
        all_goals (refine E.OW.pure rfl rfl rfl (E.PV.b2s Try.underlying22 Try.underlying5 Try.underlying9 (E.rdc hX) ?_ rfl rfl) ?_; (focus (simp)))
        all_goals (refine E.OW.pure rfl rfl rfl (E.PV.seq rfl rfl rfl) ?_)
        all_goals (refine E.OW.put 115 (.bool true) rfl (congrArg Value.bool (decide_eq_true rfl)) ?_)
        all_goals (refine E.OW.pure rfl rfl rfl (E.PV.pick_t rfl rfl rfl) ?_)
        all_goals (refine E.OW.pure rfl rfl rfl (E.PV.assign rfl rfl) ?_)
        all_goals (
          refine E.OW.nil ?_
          refine E.then_n ?_
          refine E.CW.ret ?_
          refine E.KR.one [] Try.results14 rfl rfl ?_
          exact ⟨rfl, rfl⟩))
end Go.Proofs.Ytbdfljgnlendjaa
