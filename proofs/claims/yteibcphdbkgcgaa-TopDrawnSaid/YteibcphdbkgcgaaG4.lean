/- Walks (printed by gen.py). -/
import Derived.Test.YteibcphdbkgcgaaG3
import Derived.Test.YteibcphdbkgcgaaOn
namespace Go.Proofs.Yteibcphdbkgcgaa
open Go Go.RowKit
set_option linter.unusedSimpArgs false
set_option linter.unusedVariables false

set_option maxRecDepth 100000 in
theorem ClU_ok (A : Option Addr) (c : Nat) (l : List UInt8) (w0 : World) (hl : l.length * 1 ≤ 140737488355328) (hX : E.Rd w0 (E.Old w0) A (E.u8s l)) :
    Calls Try.prog 40 #[.slice A l.length c] w0 (E.Post w0 (E.Old w0) fun v Hn => ∃ A2 c2, v = .slice A2 l.length c2 ∧ Hn = [E.HP.row 5 1 A2 l.length c2 (E.u8s l)]) := by
  refine E.calls_of (vs := [.slice A l.length c]) (H := []) Try.func40 Try.ntmps40 rfl rfl (E.HA.start w0) ?_
  refine E.CW.seq ?_
  refine E.CW.region ?_
  refine E.OW.pure rfl rfl rfl (E.PV.assign rfl rfl) ?_
  refine E.OW.nil ?_
  refine E.then_n ?_
  refine E.CW.seq ?_
  refine E.CW.seq ?_
  refine E.CW.region ?_
  refine E.OW.pure rfl rfl rfl (E.PV.move rfl rfl) ?_
  refine E.OW.pure rfl rfl rfl (E.PV.slnil Try.underlying22 rfl rfl rfl) ?_
  refine E.OW.nil ?_
  refine E.then_n ?_
  refine E.CW.cond rfl (fun hc => ?_) (fun hc => ?_)
  · skip
    all_goals (
      refine E.CW.seq ?_
      refine E.CW.nilrow 5 1 ?_
      refine E.CW.region ?_
      refine E.OW.pure rfl rfl rfl (E.PV.assign rfl rfl) ?_
      refine E.OW.nil ?_
      refine E.then_n ?_
      refine E.CW.ret ?_
      refine E.then_ret ?_
      refine E.KR.one [0] Try.results40 rfl rfl ?_
      have hl0 : l = [] := by
        cases hA : A with
        | none =>
          cases l with
          | nil => rfl
          | cons x r => obtain ⟨ad, e, _⟩ := hX (by simp); rw [hA] at e; cases e
        | some ad => rw [hA] at hc; cases hc
      subst hl0
      exact ⟨none, 0, rfl, rfl⟩)
  · skip
    all_goals (
      refine E.CW.skip ?_
      refine E.then_n ?_
      refine E.CW.seq ?_
      refine E.CW.region ?_
      refine E.OW.buildSlice (Et := 5) (sz := 1) (cs := E.u8s []) (ps := []) rfl rfl rfl rfl rfl rfl (by unfold maxLen; omega) (fun w => bsl22_0_ w) (fun AL => ?_)
      refine E.OW.pure rfl rfl rfl (E.PV.move rfl rfl) ?_
      refine E.OW.append0 (i := 0) Try.underlying22 in5 rfl rfl (by decide) rfl rfl rfl rfl rfl rfl rfl (E.rdc hX) ?_ ?_ ?_ ?_ (fun A2 c2 => ?_); (focus ((first | rfl | (simp; done) | omega))); (focus ((first | exact E.ints_one | exact E.u8s_one | (simp [Value.oneCell']; done)))); (focus ((unfold maxLen; omega))); (focus ((first | omega | (simp only [List.length_append, List.length_cons, List.length_nil] at *; omega) | (unfold maxLen at *; omega))))
      refine E.OW.pure rfl rfl rfl (E.PV.assign rfl rfl) ?_
      refine E.OW.nil ?_
      refine E.then_n ?_
      refine E.CW.ret ?_
      refine E.KR.one [0] Try.results40 rfl rfl ?_
      exact ⟨_, _, rfl, rfl⟩)

set_option maxRecDepth 100000 in
theorem ClI_ok (A : Option Addr) (c : Nat) (l : List Int) (w0 : World) (hl : l.length * 8 ≤ 140737488355328) (hX : E.Rd w0 (E.Old w0) A (E.ints l)) :
    Calls Try.prog 63 #[.slice A l.length c] w0 (E.Post w0 (E.Old w0) fun v Hn => ∃ A2 c2, v = .slice A2 l.length c2 ∧ Hn = [E.HP.row 3 1 A2 l.length c2 (E.ints l)]) := by
  refine E.calls_of (vs := [.slice A l.length c]) (H := []) Try.func63 Try.ntmps63 rfl rfl (E.HA.start w0) ?_
  refine E.CW.seq ?_
  refine E.CW.region ?_
  refine E.OW.pure rfl rfl rfl (E.PV.assign rfl rfl) ?_
  refine E.OW.nil ?_
  refine E.then_n ?_
  refine E.CW.seq ?_
  refine E.CW.seq ?_
  refine E.CW.region ?_
  refine E.OW.pure rfl rfl rfl (E.PV.move rfl rfl) ?_
  refine E.OW.pure rfl rfl rfl (E.PV.slnil Try.underlying50 rfl rfl rfl) ?_
  refine E.OW.nil ?_
  refine E.then_n ?_
  refine E.CW.cond rfl (fun hc => ?_) (fun hc => ?_)
  · skip
    all_goals (
      refine E.CW.seq ?_
      refine E.CW.nilrow 3 1 ?_
      refine E.CW.region ?_
      refine E.OW.pure rfl rfl rfl (E.PV.assign rfl rfl) ?_
      refine E.OW.nil ?_
      refine E.then_n ?_
      refine E.CW.ret ?_
      refine E.then_ret ?_
      refine E.KR.one [0] Try.results63 rfl rfl ?_
      have hl0 : l = [] := by
        cases hA : A with
        | none =>
          cases l with
          | nil => rfl
          | cons x r => obtain ⟨ad, e, _⟩ := hX (by simp); rw [hA] at e; cases e
        | some ad => rw [hA] at hc; cases hc
      subst hl0
      exact ⟨none, 0, rfl, rfl⟩)
  · skip
    all_goals (
      refine E.CW.skip ?_
      refine E.then_n ?_
      refine E.CW.seq ?_
      refine E.CW.region ?_
      refine E.OW.buildSlice (Et := 3) (sz := 1) (cs := E.ints []) (ps := []) rfl rfl rfl rfl rfl rfl (by unfold maxLen; omega) (fun w => bsl50_0_ w) (fun AL => ?_)
      refine E.OW.pure rfl rfl rfl (E.PV.move rfl rfl) ?_
      refine E.OW.append0 (i := 0) Try.underlying50 in3 rfl rfl (by decide) rfl rfl rfl rfl rfl rfl rfl (E.rdc hX) ?_ ?_ ?_ ?_ (fun A2 c2 => ?_); (focus ((first | rfl | (simp; done) | omega))); (focus ((first | exact E.ints_one | exact E.u8s_one | (simp [Value.oneCell']; done)))); (focus ((unfold maxLen; omega))); (focus ((first | omega | (simp only [List.length_append, List.length_cons, List.length_nil] at *; omega) | (unfold maxLen at *; omega))))
      refine E.OW.pure rfl rfl rfl (E.PV.assign rfl rfl) ?_
      refine E.OW.nil ?_
      refine E.then_n ?_
      refine E.CW.ret ?_
      refine E.KR.one [0] Try.results63 rfl rfl ?_
      exact ⟨_, _, rfl, rfl⟩)

set_option maxRecDepth 100000 in
theorem Cp_ok (m : E.Tm) (w0 : World) (hm : m.rd w0 (E.Old w0)) (hf : m.q.fit) :
    Calls Try.prog 41 #[m.v] w0 (E.Post w0 (E.Old w0) fun v Hn => ∃ m2 : E.Tm, v = m2.v ∧ Hn = [E.HP.tm m2] ∧ m2.q = m.q) := by
  obtain ⟨hX, hY, hZ⟩ := id hm
  have hs1 := hf.h
  have hs2 := hf.p
  have hs3 := hf.d
  have hsl := Cf.spots_len m.q
  refine E.calls_of (vs := [m.v]) (H := []) Try.func41 Try.ntmps41 rfl rfl (E.HA.start w0) ?_
  refine E.CW.seq ?_
  refine E.CW.region ?_
  refine E.OW.box rfl rfl rfl rfl rfl rfl (fun B1 => ?_)
  refine E.OW.alloc (in52.zr) rfl rfl rfl rfl rfl (fun B2 => ?_)
  refine E.OW.nil ?_
  refine E.then_n ?_
  refine E.CW.seq ?_
  refine E.CW.drawx mixed [] rfl ?_
  all_goals (refine E.AW.first 0 rfl (by kernel_rfl) (by kernel_rfl) (by kernel_rfl) rfl rfl rfl (E.PV.fieldAddr fa52_0 rfl rfl) ?_)
  all_goals (refine E.AW.first 3 rfl (by kernel_rfl) (by kernel_rfl) (by kernel_rfl) rfl rfl rfl (E.PV.fieldAddr fa52_1 rfl rfl) ?_)
  all_goals (refine E.AW.first 6 rfl (by kernel_rfl) (by kernel_rfl) (by kernel_rfl) rfl rfl rfl (E.PV.fieldAddr fa52_2 rfl rfl) ?_)
  all_goals (
    refine E.AW.three 1 4 7 (by kernel_rfl) rfl rfl rfl ?ga1 ?gb1 ?gc1
    case' ga1 =>
        all_goals (refine E.OW.pure rfl rfl rfl (E.PV.load (i := 1) na50 rfl rfl rfl rfl) ?_)
        all_goals (refine E.AW.nil [] rfl ?_)
        all_goals (
          refine E.AW.three 2 4 7 (by kernel_rfl) rfl rfl rfl ?ga2 ?gb2 ?gc2
          case' ga2 =>
              all_goals ((refine E.OW.call nm63 rfl rfl rfl rfl rfl rfl _ (fun w hw => ClI_ok _ _ _ w ?_ ?_) ?_; (focus (omega)); (focus (refine hw.rd ?_; assumption)); rintro _ _ ⟨AX0, cX0, rfl, rfl⟩))
              all_goals (refine E.AW.nil [] rfl ?_)
              all_goals (
                refine E.AW.two 4 7 (by kernel_rfl) rfl rfl ?ga3 ?gb3
                case' ga3 =>
                    all_goals (refine E.OW.pure rfl rfl rfl (E.PV.load (i := 2) na50 rfl rfl rfl rfl) ?_)
                    all_goals (refine E.AW.nil [] rfl ?_)
                    all_goals (
                      refine E.AW.two 5 7 (by kernel_rfl) rfl rfl ?ga4 ?gb4
                      case' ga4 =>
                          all_goals ((refine E.OW.call nm63 rfl rfl rfl rfl rfl rfl _ (fun w hw => ClI_ok _ _ _ w ?_ ?_) ?_; (focus (omega)); (focus (refine hw.rd ?_; assumption)); rintro _ _ ⟨AX1, cX1, rfl, rfl⟩))
                          all_goals (refine E.AW.nil [] rfl ?_)
                          all_goals (refine E.AW.one 7 (by kernel_rfl) rfl ?_)
                          all_goals (refine E.OW.pure rfl rfl rfl (E.PV.load (i := 3) na50 rfl rfl rfl rfl) ?_)
                          all_goals (refine E.AW.nil [] rfl ?_)
                          all_goals (refine E.AW.first 9 rfl (by kernel_rfl) (by kernel_rfl) (by kernel_rfl) rfl rfl rfl (E.PV.fieldAddr fa52_0 rfl rfl) ?_)
                          all_goals (refine E.AW.one 8 (by kernel_rfl) rfl ?_)
                          all_goals ((refine E.OW.call nm63 rfl rfl rfl rfl rfl rfl _ (fun w hw => ClI_ok _ _ _ w ?_ ?_) ?_; (focus (omega)); (focus (refine hw.rd ?_; assumption)); rintro _ _ ⟨AX2, cX2, rfl, rfl⟩))
                          all_goals (refine E.AW.nil [] rfl ?_)
                          all_goals (refine E.AW.one 10 (by kernel_rfl) rfl ?_)
                          all_goals (refine E.OW.store (i := 4) in50.size rfl rfl rfl rfl rfl rfl rfl rfl rfl ?_)
                          all_goals (refine E.AW.nil [] rfl ?_)
                          all_goals (refine E.AW.first 11 rfl (by kernel_rfl) (by kernel_rfl) (by kernel_rfl) rfl rfl rfl (E.PV.fieldAddr fa52_1 rfl rfl) ?_)
                          all_goals (refine E.AW.one 12 (by kernel_rfl) rfl ?_)
                          all_goals (refine E.OW.store (i := 0) in50.size rfl rfl rfl rfl rfl rfl rfl rfl rfl ?_)
                          all_goals (refine E.AW.nil [] rfl ?_)
                          all_goals (refine E.AW.first 13 rfl (by kernel_rfl) (by kernel_rfl) (by kernel_rfl) rfl rfl rfl (E.PV.fieldAddr fa52_2 rfl rfl) ?_)
                          all_goals (refine E.AW.one 14 (by kernel_rfl) rfl ?_)
                          all_goals (refine E.OW.store (i := 0) in50.size rfl rfl rfl rfl rfl rfl rfl rfl rfl ?_)
                          all_goals (refine E.AW.nil [] rfl ?_)
                          all_goals (refine E.AW.done (by kernel_rfl) ?_)
                      case' gb4 =>
                          all_goals (refine E.OW.pure rfl rfl rfl (E.PV.load (i := 2) na50 rfl rfl rfl rfl) ?_)
                          all_goals (refine E.AW.nil [] rfl ?_)
                          all_goals (refine E.AW.first 9 rfl (by kernel_rfl) (by kernel_rfl) (by kernel_rfl) rfl rfl rfl (E.PV.fieldAddr fa52_0 rfl rfl) ?_)
                          all_goals (refine E.AW.one 5 (by kernel_rfl) rfl ?_)
                          all_goals ((refine E.OW.call nm63 rfl rfl rfl rfl rfl rfl _ (fun w hw => ClI_ok _ _ _ w ?_ ?_) ?_; (focus (omega)); (focus (refine hw.rd ?_; assumption)); rintro _ _ ⟨AX3, cX3, rfl, rfl⟩))
                          all_goals (refine E.AW.nil [] rfl ?_)
                          all_goals (refine E.AW.one 8 (by kernel_rfl) rfl ?_)
                          all_goals ((refine E.OW.call nm63 rfl rfl rfl rfl rfl rfl _ (fun w hw => ClI_ok _ _ _ w ?_ ?_) ?_; (focus (omega)); (focus (refine hw.rd ?_; assumption)); rintro _ _ ⟨AX4, cX4, rfl, rfl⟩))
                          all_goals (refine E.AW.nil [] rfl ?_)
                          all_goals (refine E.AW.one 10 (by kernel_rfl) rfl ?_)
                          all_goals (refine E.OW.store (i := 4) in50.size rfl rfl rfl rfl rfl rfl rfl rfl rfl ?_)
                          all_goals (refine E.AW.nil [] rfl ?_)
                          all_goals (refine E.AW.first 11 rfl (by kernel_rfl) (by kernel_rfl) (by kernel_rfl) rfl rfl rfl (E.PV.fieldAddr fa52_1 rfl rfl) ?_)
                          all_goals (refine E.AW.one 12 (by kernel_rfl) rfl ?_)
                          all_goals (refine E.OW.store (i := 0) in50.size rfl rfl rfl rfl rfl rfl rfl rfl rfl ?_)
                          all_goals (refine E.AW.nil [] rfl ?_)
                          all_goals (refine E.AW.first 13 rfl (by kernel_rfl) (by kernel_rfl) (by kernel_rfl) rfl rfl rfl (E.PV.fieldAddr fa52_2 rfl rfl) ?_)
                          all_goals (refine E.AW.one 14 (by kernel_rfl) rfl ?_)
                          all_goals (refine E.OW.store (i := 0) in50.size rfl rfl rfl rfl rfl rfl rfl rfl rfl ?_)
                          all_goals (refine E.AW.nil [] rfl ?_)
                          all_goals (refine E.AW.done (by kernel_rfl) ?_))
                case' gb3 =>
                    all_goals (refine E.OW.pure rfl rfl rfl (E.PV.load (i := 2) na50 rfl rfl rfl rfl) ?_)
                    all_goals (refine E.AW.nil [] rfl ?_)
                    all_goals (refine E.AW.one 4 (by kernel_rfl) rfl ?_)
                    all_goals (refine E.OW.pure rfl rfl rfl (E.PV.load (i := 2) na50 rfl rfl rfl rfl) ?_)
                    all_goals (refine E.AW.nil [] rfl ?_)
                    all_goals (refine E.AW.first 9 rfl (by kernel_rfl) (by kernel_rfl) (by kernel_rfl) rfl rfl rfl (E.PV.fieldAddr fa52_0 rfl rfl) ?_)
                    all_goals (refine E.AW.one 5 (by kernel_rfl) rfl ?_)
                    all_goals ((refine E.OW.call nm63 rfl rfl rfl rfl rfl rfl _ (fun w hw => ClI_ok _ _ _ w ?_ ?_) ?_; (focus (omega)); (focus (refine hw.rd ?_; assumption)); rintro _ _ ⟨AX5, cX5, rfl, rfl⟩))
                    all_goals (refine E.AW.nil [] rfl ?_)
                    all_goals (refine E.AW.one 8 (by kernel_rfl) rfl ?_)
                    all_goals ((refine E.OW.call nm63 rfl rfl rfl rfl rfl rfl _ (fun w hw => ClI_ok _ _ _ w ?_ ?_) ?_; (focus (omega)); (focus (refine hw.rd ?_; assumption)); rintro _ _ ⟨AX6, cX6, rfl, rfl⟩))
                    all_goals (refine E.AW.nil [] rfl ?_)
                    all_goals (refine E.AW.one 10 (by kernel_rfl) rfl ?_)
                    all_goals (refine E.OW.store (i := 4) in50.size rfl rfl rfl rfl rfl rfl rfl rfl rfl ?_)
                    all_goals (refine E.AW.nil [] rfl ?_)
                    all_goals (refine E.AW.first 11 rfl (by kernel_rfl) (by kernel_rfl) (by kernel_rfl) rfl rfl rfl (E.PV.fieldAddr fa52_1 rfl rfl) ?_)
                    all_goals (refine E.AW.one 12 (by kernel_rfl) rfl ?_)
                    all_goals (refine E.OW.store (i := 0) in50.size rfl rfl rfl rfl rfl rfl rfl rfl rfl ?_)
                    all_goals (refine E.AW.nil [] rfl ?_)
                    all_goals (refine E.AW.first 13 rfl (by kernel_rfl) (by kernel_rfl) (by kernel_rfl) rfl rfl rfl (E.PV.fieldAddr fa52_2 rfl rfl) ?_)
                    all_goals (refine E.AW.one 14 (by kernel_rfl) rfl ?_)
                    all_goals (refine E.OW.store (i := 0) in50.size rfl rfl rfl rfl rfl rfl rfl rfl rfl ?_)
                    all_goals (refine E.AW.nil [] rfl ?_)
                    all_goals (refine E.AW.done (by kernel_rfl) ?_))
          case' gb2 =>
              all_goals (refine E.OW.pure rfl rfl rfl (E.PV.load (i := 1) na50 rfl rfl rfl rfl) ?_)
              all_goals (refine E.AW.nil [] rfl ?_)
              all_goals (
                refine E.AW.two 2 7 (by kernel_rfl) rfl rfl ?ga5 ?gb5
                case' ga5 =>
                    all_goals ((refine E.OW.call nm63 rfl rfl rfl rfl rfl rfl _ (fun w hw => ClI_ok _ _ _ w ?_ ?_) ?_; (focus (omega)); (focus (refine hw.rd ?_; assumption)); rintro _ _ ⟨AX7, cX7, rfl, rfl⟩))
                    all_goals (refine E.AW.nil [] rfl ?_)
                    all_goals (
                      refine E.AW.two 5 7 (by kernel_rfl) rfl rfl ?ga6 ?gb6
                      case' ga6 =>
                          all_goals ((refine E.OW.call nm63 rfl rfl rfl rfl rfl rfl _ (fun w hw => ClI_ok _ _ _ w ?_ ?_) ?_; (focus (omega)); (focus (refine hw.rd ?_; assumption)); rintro _ _ ⟨AX8, cX8, rfl, rfl⟩))
                          all_goals (refine E.AW.nil [] rfl ?_)
                          all_goals (refine E.AW.one 7 (by kernel_rfl) rfl ?_)
                          all_goals (refine E.OW.pure rfl rfl rfl (E.PV.load (i := 3) na50 rfl rfl rfl rfl) ?_)
                          all_goals (refine E.AW.nil [] rfl ?_)
                          all_goals (refine E.AW.first 9 rfl (by kernel_rfl) (by kernel_rfl) (by kernel_rfl) rfl rfl rfl (E.PV.fieldAddr fa52_0 rfl rfl) ?_)
                          all_goals (refine E.AW.one 8 (by kernel_rfl) rfl ?_)
                          all_goals ((refine E.OW.call nm63 rfl rfl rfl rfl rfl rfl _ (fun w hw => ClI_ok _ _ _ w ?_ ?_) ?_; (focus (omega)); (focus (refine hw.rd ?_; assumption)); rintro _ _ ⟨AX9, cX9, rfl, rfl⟩))
                          all_goals (refine E.AW.nil [] rfl ?_)
                          all_goals (refine E.AW.one 10 (by kernel_rfl) rfl ?_)
                          all_goals (refine E.OW.store (i := 4) in50.size rfl rfl rfl rfl rfl rfl rfl rfl rfl ?_)
                          all_goals (refine E.AW.nil [] rfl ?_)
                          all_goals (refine E.AW.first 11 rfl (by kernel_rfl) (by kernel_rfl) (by kernel_rfl) rfl rfl rfl (E.PV.fieldAddr fa52_1 rfl rfl) ?_)
                          all_goals (refine E.AW.one 12 (by kernel_rfl) rfl ?_)
                          all_goals (refine E.OW.store (i := 0) in50.size rfl rfl rfl rfl rfl rfl rfl rfl rfl ?_)
                          all_goals (refine E.AW.nil [] rfl ?_)
                          all_goals (refine E.AW.first 13 rfl (by kernel_rfl) (by kernel_rfl) (by kernel_rfl) rfl rfl rfl (E.PV.fieldAddr fa52_2 rfl rfl) ?_)
                          all_goals (refine E.AW.one 14 (by kernel_rfl) rfl ?_)
                          all_goals (refine E.OW.store (i := 0) in50.size rfl rfl rfl rfl rfl rfl rfl rfl rfl ?_)
                          all_goals (refine E.AW.nil [] rfl ?_)
                          all_goals (refine E.AW.done (by kernel_rfl) ?_)
                      case' gb6 =>
                          all_goals (refine E.OW.pure rfl rfl rfl (E.PV.load (i := 2) na50 rfl rfl rfl rfl) ?_)
                          all_goals (refine E.AW.nil [] rfl ?_)
                          all_goals (refine E.AW.first 9 rfl (by kernel_rfl) (by kernel_rfl) (by kernel_rfl) rfl rfl rfl (E.PV.fieldAddr fa52_0 rfl rfl) ?_)
                          all_goals (refine E.AW.one 5 (by kernel_rfl) rfl ?_)
                          all_goals ((refine E.OW.call nm63 rfl rfl rfl rfl rfl rfl _ (fun w hw => ClI_ok _ _ _ w ?_ ?_) ?_; (focus (omega)); (focus (refine hw.rd ?_; assumption)); rintro _ _ ⟨AX10, cX10, rfl, rfl⟩))
                          all_goals (refine E.AW.nil [] rfl ?_)
                          all_goals (refine E.AW.one 8 (by kernel_rfl) rfl ?_)
                          all_goals ((refine E.OW.call nm63 rfl rfl rfl rfl rfl rfl _ (fun w hw => ClI_ok _ _ _ w ?_ ?_) ?_; (focus (omega)); (focus (refine hw.rd ?_; assumption)); rintro _ _ ⟨AX11, cX11, rfl, rfl⟩))
                          all_goals (refine E.AW.nil [] rfl ?_)
                          all_goals (refine E.AW.one 10 (by kernel_rfl) rfl ?_)
                          all_goals (refine E.OW.store (i := 4) in50.size rfl rfl rfl rfl rfl rfl rfl rfl rfl ?_)
                          all_goals (refine E.AW.nil [] rfl ?_)
                          all_goals (refine E.AW.first 11 rfl (by kernel_rfl) (by kernel_rfl) (by kernel_rfl) rfl rfl rfl (E.PV.fieldAddr fa52_1 rfl rfl) ?_)
                          all_goals (refine E.AW.one 12 (by kernel_rfl) rfl ?_)
                          all_goals (refine E.OW.store (i := 0) in50.size rfl rfl rfl rfl rfl rfl rfl rfl rfl ?_)
                          all_goals (refine E.AW.nil [] rfl ?_)
                          all_goals (refine E.AW.first 13 rfl (by kernel_rfl) (by kernel_rfl) (by kernel_rfl) rfl rfl rfl (E.PV.fieldAddr fa52_2 rfl rfl) ?_)
                          all_goals (refine E.AW.one 14 (by kernel_rfl) rfl ?_)
                          all_goals (refine E.OW.store (i := 0) in50.size rfl rfl rfl rfl rfl rfl rfl rfl rfl ?_)
                          all_goals (refine E.AW.nil [] rfl ?_)
                          all_goals (refine E.AW.done (by kernel_rfl) ?_))
                case' gb5 =>
                    all_goals (refine E.OW.pure rfl rfl rfl (E.PV.load (i := 1) na50 rfl rfl rfl rfl) ?_)
                    all_goals (refine E.AW.nil [] rfl ?_)
                    all_goals (refine E.AW.one 2 (by kernel_rfl) rfl ?_)
                    all_goals ((refine E.OW.call nm63 rfl rfl rfl rfl rfl rfl _ (fun w hw => ClI_ok _ _ _ w ?_ ?_) ?_; (focus (omega)); (focus (refine hw.rd ?_; assumption)); rintro _ _ ⟨AX12, cX12, rfl, rfl⟩))
                    all_goals (refine E.AW.nil [] rfl ?_)
                    all_goals (refine E.AW.first 9 rfl (by kernel_rfl) (by kernel_rfl) (by kernel_rfl) rfl rfl rfl (E.PV.fieldAddr fa52_0 rfl rfl) ?_)
                    all_goals (refine E.AW.one 5 (by kernel_rfl) rfl ?_)
                    all_goals ((refine E.OW.call nm63 rfl rfl rfl rfl rfl rfl _ (fun w hw => ClI_ok _ _ _ w ?_ ?_) ?_; (focus (omega)); (focus (refine hw.rd ?_; assumption)); rintro _ _ ⟨AX13, cX13, rfl, rfl⟩))
                    all_goals (refine E.AW.nil [] rfl ?_)
                    all_goals (refine E.AW.one 8 (by kernel_rfl) rfl ?_)
                    all_goals ((refine E.OW.call nm63 rfl rfl rfl rfl rfl rfl _ (fun w hw => ClI_ok _ _ _ w ?_ ?_) ?_; (focus (omega)); (focus (refine hw.rd ?_; assumption)); rintro _ _ ⟨AX14, cX14, rfl, rfl⟩))
                    all_goals (refine E.AW.nil [] rfl ?_)
                    all_goals (refine E.AW.one 10 (by kernel_rfl) rfl ?_)
                    all_goals (refine E.OW.store (i := 4) in50.size rfl rfl rfl rfl rfl rfl rfl rfl rfl ?_)
                    all_goals (refine E.AW.nil [] rfl ?_)
                    all_goals (refine E.AW.first 11 rfl (by kernel_rfl) (by kernel_rfl) (by kernel_rfl) rfl rfl rfl (E.PV.fieldAddr fa52_1 rfl rfl) ?_)
                    all_goals (refine E.AW.one 12 (by kernel_rfl) rfl ?_)
                    all_goals (refine E.OW.store (i := 0) in50.size rfl rfl rfl rfl rfl rfl rfl rfl rfl ?_)
                    all_goals (refine E.AW.nil [] rfl ?_)
                    all_goals (refine E.AW.first 13 rfl (by kernel_rfl) (by kernel_rfl) (by kernel_rfl) rfl rfl rfl (E.PV.fieldAddr fa52_2 rfl rfl) ?_)
                    all_goals (refine E.AW.one 14 (by kernel_rfl) rfl ?_)
                    all_goals (refine E.OW.store (i := 0) in50.size rfl rfl rfl rfl rfl rfl rfl rfl rfl ?_)
                    all_goals (refine E.AW.nil [] rfl ?_)
                    all_goals (refine E.AW.done (by kernel_rfl) ?_))
          case' gc2 =>
              all_goals (refine E.OW.pure rfl rfl rfl (E.PV.load (i := 1) na50 rfl rfl rfl rfl) ?_)
              all_goals (refine E.AW.nil [] rfl ?_)
              all_goals (
                refine E.AW.two 2 4 (by kernel_rfl) rfl rfl ?ga7 ?gb7
                case' ga7 =>
                    all_goals ((refine E.OW.call nm63 rfl rfl rfl rfl rfl rfl _ (fun w hw => ClI_ok _ _ _ w ?_ ?_) ?_; (focus (omega)); (focus (refine hw.rd ?_; assumption)); rintro _ _ ⟨AX15, cX15, rfl, rfl⟩))
                    all_goals (refine E.AW.nil [] rfl ?_)
                    all_goals (refine E.AW.one 4 (by kernel_rfl) rfl ?_)
                    all_goals (refine E.OW.pure rfl rfl rfl (E.PV.load (i := 2) na50 rfl rfl rfl rfl) ?_)
                    all_goals (refine E.AW.nil [] rfl ?_)
                    all_goals (refine E.AW.first 9 rfl (by kernel_rfl) (by kernel_rfl) (by kernel_rfl) rfl rfl rfl (E.PV.fieldAddr fa52_0 rfl rfl) ?_)
                    all_goals (refine E.AW.one 5 (by kernel_rfl) rfl ?_)
                    all_goals ((refine E.OW.call nm63 rfl rfl rfl rfl rfl rfl _ (fun w hw => ClI_ok _ _ _ w ?_ ?_) ?_; (focus (omega)); (focus (refine hw.rd ?_; assumption)); rintro _ _ ⟨AX16, cX16, rfl, rfl⟩))
                    all_goals (refine E.AW.nil [] rfl ?_)
                    all_goals (refine E.AW.one 8 (by kernel_rfl) rfl ?_)
                    all_goals ((refine E.OW.call nm63 rfl rfl rfl rfl rfl rfl _ (fun w hw => ClI_ok _ _ _ w ?_ ?_) ?_; (focus (omega)); (focus (refine hw.rd ?_; assumption)); rintro _ _ ⟨AX17, cX17, rfl, rfl⟩))
                    all_goals (refine E.AW.nil [] rfl ?_)
                    all_goals (refine E.AW.one 10 (by kernel_rfl) rfl ?_)
                    all_goals (refine E.OW.store (i := 4) in50.size rfl rfl rfl rfl rfl rfl rfl rfl rfl ?_)
                    all_goals (refine E.AW.nil [] rfl ?_)
                    all_goals (refine E.AW.first 11 rfl (by kernel_rfl) (by kernel_rfl) (by kernel_rfl) rfl rfl rfl (E.PV.fieldAddr fa52_1 rfl rfl) ?_)
                    all_goals (refine E.AW.one 12 (by kernel_rfl) rfl ?_)
                    all_goals (refine E.OW.store (i := 0) in50.size rfl rfl rfl rfl rfl rfl rfl rfl rfl ?_)
                    all_goals (refine E.AW.nil [] rfl ?_)
                    all_goals (refine E.AW.first 13 rfl (by kernel_rfl) (by kernel_rfl) (by kernel_rfl) rfl rfl rfl (E.PV.fieldAddr fa52_2 rfl rfl) ?_)
                    all_goals (refine E.AW.one 14 (by kernel_rfl) rfl ?_)
                    all_goals (refine E.OW.store (i := 0) in50.size rfl rfl rfl rfl rfl rfl rfl rfl rfl ?_)
                    all_goals (refine E.AW.nil [] rfl ?_)
                    all_goals (refine E.AW.done (by kernel_rfl) ?_)
                case' gb7 =>
                    all_goals (refine E.OW.pure rfl rfl rfl (E.PV.load (i := 1) na50 rfl rfl rfl rfl) ?_)
                    all_goals (refine E.AW.nil [] rfl ?_)
                    all_goals (refine E.AW.one 2 (by kernel_rfl) rfl ?_)
                    all_goals ((refine E.OW.call nm63 rfl rfl rfl rfl rfl rfl _ (fun w hw => ClI_ok _ _ _ w ?_ ?_) ?_; (focus (omega)); (focus (refine hw.rd ?_; assumption)); rintro _ _ ⟨AX18, cX18, rfl, rfl⟩))
                    all_goals (refine E.AW.nil [] rfl ?_)
                    all_goals (refine E.AW.first 9 rfl (by kernel_rfl) (by kernel_rfl) (by kernel_rfl) rfl rfl rfl (E.PV.fieldAddr fa52_0 rfl rfl) ?_)
                    all_goals (refine E.AW.one 5 (by kernel_rfl) rfl ?_)
                    all_goals ((refine E.OW.call nm63 rfl rfl rfl rfl rfl rfl _ (fun w hw => ClI_ok _ _ _ w ?_ ?_) ?_; (focus (omega)); (focus (refine hw.rd ?_; assumption)); rintro _ _ ⟨AX19, cX19, rfl, rfl⟩))
                    all_goals (refine E.AW.nil [] rfl ?_)
                    all_goals (refine E.AW.one 8 (by kernel_rfl) rfl ?_)
                    all_goals ((refine E.OW.call nm63 rfl rfl rfl rfl rfl rfl _ (fun w hw => ClI_ok _ _ _ w ?_ ?_) ?_; (focus (omega)); (focus (refine hw.rd ?_; assumption)); rintro _ _ ⟨AX20, cX20, rfl, rfl⟩))
                    all_goals (refine E.AW.nil [] rfl ?_)
                    all_goals (refine E.AW.one 10 (by kernel_rfl) rfl ?_)
                    all_goals (refine E.OW.store (i := 4) in50.size rfl rfl rfl rfl rfl rfl rfl rfl rfl ?_)
                    all_goals (refine E.AW.nil [] rfl ?_)
                    all_goals (refine E.AW.first 11 rfl (by kernel_rfl) (by kernel_rfl) (by kernel_rfl) rfl rfl rfl (E.PV.fieldAddr fa52_1 rfl rfl) ?_)
                    all_goals (refine E.AW.one 12 (by kernel_rfl) rfl ?_)
                    all_goals (refine E.OW.store (i := 0) in50.size rfl rfl rfl rfl rfl rfl rfl rfl rfl ?_)
                    all_goals (refine E.AW.nil [] rfl ?_)
                    all_goals (refine E.AW.first 13 rfl (by kernel_rfl) (by kernel_rfl) (by kernel_rfl) rfl rfl rfl (E.PV.fieldAddr fa52_2 rfl rfl) ?_)
                    all_goals (refine E.AW.one 14 (by kernel_rfl) rfl ?_)
                    all_goals (refine E.OW.store (i := 0) in50.size rfl rfl rfl rfl rfl rfl rfl rfl rfl ?_)
                    all_goals (refine E.AW.nil [] rfl ?_)
                    all_goals (refine E.AW.done (by kernel_rfl) ?_)))
    case' gb1 =>
        all_goals (refine E.OW.pure rfl rfl rfl (E.PV.load (i := 1) na50 rfl rfl rfl rfl) ?_)
        all_goals (refine E.AW.nil [] rfl ?_)
        all_goals (
          refine E.AW.two 1 7 (by kernel_rfl) rfl rfl ?ga8 ?gb8
          case' ga8 =>
              all_goals (refine E.OW.pure rfl rfl rfl (E.PV.load (i := 1) na50 rfl rfl rfl rfl) ?_)
              all_goals (refine E.AW.nil [] rfl ?_)
              all_goals (
                refine E.AW.two 2 7 (by kernel_rfl) rfl rfl ?ga9 ?gb9
                case' ga9 =>
                    all_goals ((refine E.OW.call nm63 rfl rfl rfl rfl rfl rfl _ (fun w hw => ClI_ok _ _ _ w ?_ ?_) ?_; (focus (omega)); (focus (refine hw.rd ?_; assumption)); rintro _ _ ⟨AX21, cX21, rfl, rfl⟩))
                    all_goals (refine E.AW.nil [] rfl ?_)
                    all_goals (
                      refine E.AW.two 5 7 (by kernel_rfl) rfl rfl ?ga10 ?gb10
                      case' ga10 =>
                          all_goals ((refine E.OW.call nm63 rfl rfl rfl rfl rfl rfl _ (fun w hw => ClI_ok _ _ _ w ?_ ?_) ?_; (focus (omega)); (focus (refine hw.rd ?_; assumption)); rintro _ _ ⟨AX22, cX22, rfl, rfl⟩))
                          all_goals (refine E.AW.nil [] rfl ?_)
                          all_goals (refine E.AW.one 7 (by kernel_rfl) rfl ?_)
                          all_goals (refine E.OW.pure rfl rfl rfl (E.PV.load (i := 3) na50 rfl rfl rfl rfl) ?_)
                          all_goals (refine E.AW.nil [] rfl ?_)
                          all_goals (refine E.AW.first 9 rfl (by kernel_rfl) (by kernel_rfl) (by kernel_rfl) rfl rfl rfl (E.PV.fieldAddr fa52_0 rfl rfl) ?_)
                          all_goals (refine E.AW.one 8 (by kernel_rfl) rfl ?_)
                          all_goals ((refine E.OW.call nm63 rfl rfl rfl rfl rfl rfl _ (fun w hw => ClI_ok _ _ _ w ?_ ?_) ?_; (focus (omega)); (focus (refine hw.rd ?_; assumption)); rintro _ _ ⟨AX23, cX23, rfl, rfl⟩))
                          all_goals (refine E.AW.nil [] rfl ?_)
                          all_goals (refine E.AW.one 10 (by kernel_rfl) rfl ?_)
                          all_goals (refine E.OW.store (i := 4) in50.size rfl rfl rfl rfl rfl rfl rfl rfl rfl ?_)
                          all_goals (refine E.AW.nil [] rfl ?_)
                          all_goals (refine E.AW.first 11 rfl (by kernel_rfl) (by kernel_rfl) (by kernel_rfl) rfl rfl rfl (E.PV.fieldAddr fa52_1 rfl rfl) ?_)
                          all_goals (refine E.AW.one 12 (by kernel_rfl) rfl ?_)
                          all_goals (refine E.OW.store (i := 0) in50.size rfl rfl rfl rfl rfl rfl rfl rfl rfl ?_)
                          all_goals (refine E.AW.nil [] rfl ?_)
                          all_goals (refine E.AW.first 13 rfl (by kernel_rfl) (by kernel_rfl) (by kernel_rfl) rfl rfl rfl (E.PV.fieldAddr fa52_2 rfl rfl) ?_)
                          all_goals (refine E.AW.one 14 (by kernel_rfl) rfl ?_)
                          all_goals (refine E.OW.store (i := 0) in50.size rfl rfl rfl rfl rfl rfl rfl rfl rfl ?_)
                          all_goals (refine E.AW.nil [] rfl ?_)
                          all_goals (refine E.AW.done (by kernel_rfl) ?_)
                      case' gb10 =>
                          all_goals (refine E.OW.pure rfl rfl rfl (E.PV.load (i := 2) na50 rfl rfl rfl rfl) ?_)
                          all_goals (refine E.AW.nil [] rfl ?_)
                          all_goals (refine E.AW.first 9 rfl (by kernel_rfl) (by kernel_rfl) (by kernel_rfl) rfl rfl rfl (E.PV.fieldAddr fa52_0 rfl rfl) ?_)
                          all_goals (refine E.AW.one 5 (by kernel_rfl) rfl ?_)
                          all_goals ((refine E.OW.call nm63 rfl rfl rfl rfl rfl rfl _ (fun w hw => ClI_ok _ _ _ w ?_ ?_) ?_; (focus (omega)); (focus (refine hw.rd ?_; assumption)); rintro _ _ ⟨AX24, cX24, rfl, rfl⟩))
                          all_goals (refine E.AW.nil [] rfl ?_)
                          all_goals (refine E.AW.one 8 (by kernel_rfl) rfl ?_)
                          all_goals ((refine E.OW.call nm63 rfl rfl rfl rfl rfl rfl _ (fun w hw => ClI_ok _ _ _ w ?_ ?_) ?_; (focus (omega)); (focus (refine hw.rd ?_; assumption)); rintro _ _ ⟨AX25, cX25, rfl, rfl⟩))
                          all_goals (refine E.AW.nil [] rfl ?_)
                          all_goals (refine E.AW.one 10 (by kernel_rfl) rfl ?_)
                          all_goals (refine E.OW.store (i := 4) in50.size rfl rfl rfl rfl rfl rfl rfl rfl rfl ?_)
                          all_goals (refine E.AW.nil [] rfl ?_)
                          all_goals (refine E.AW.first 11 rfl (by kernel_rfl) (by kernel_rfl) (by kernel_rfl) rfl rfl rfl (E.PV.fieldAddr fa52_1 rfl rfl) ?_)
                          all_goals (refine E.AW.one 12 (by kernel_rfl) rfl ?_)
                          all_goals (refine E.OW.store (i := 0) in50.size rfl rfl rfl rfl rfl rfl rfl rfl rfl ?_)
                          all_goals (refine E.AW.nil [] rfl ?_)
                          all_goals (refine E.AW.first 13 rfl (by kernel_rfl) (by kernel_rfl) (by kernel_rfl) rfl rfl rfl (E.PV.fieldAddr fa52_2 rfl rfl) ?_)
                          all_goals (refine E.AW.one 14 (by kernel_rfl) rfl ?_)
                          all_goals (refine E.OW.store (i := 0) in50.size rfl rfl rfl rfl rfl rfl rfl rfl rfl ?_)
                          all_goals (refine E.AW.nil [] rfl ?_)
                          all_goals (refine E.AW.done (by kernel_rfl) ?_))
                case' gb9 =>
                    all_goals (refine E.OW.pure rfl rfl rfl (E.PV.load (i := 1) na50 rfl rfl rfl rfl) ?_)
                    all_goals (refine E.AW.nil [] rfl ?_)
                    all_goals (refine E.AW.one 2 (by kernel_rfl) rfl ?_)
                    all_goals ((refine E.OW.call nm63 rfl rfl rfl rfl rfl rfl _ (fun w hw => ClI_ok _ _ _ w ?_ ?_) ?_; (focus (omega)); (focus (refine hw.rd ?_; assumption)); rintro _ _ ⟨AX26, cX26, rfl, rfl⟩))
                    all_goals (refine E.AW.nil [] rfl ?_)
                    all_goals (refine E.AW.first 9 rfl (by kernel_rfl) (by kernel_rfl) (by kernel_rfl) rfl rfl rfl (E.PV.fieldAddr fa52_0 rfl rfl) ?_)
                    all_goals (refine E.AW.one 5 (by kernel_rfl) rfl ?_)
                    all_goals ((refine E.OW.call nm63 rfl rfl rfl rfl rfl rfl _ (fun w hw => ClI_ok _ _ _ w ?_ ?_) ?_; (focus (omega)); (focus (refine hw.rd ?_; assumption)); rintro _ _ ⟨AX27, cX27, rfl, rfl⟩))
                    all_goals (refine E.AW.nil [] rfl ?_)
                    all_goals (refine E.AW.one 8 (by kernel_rfl) rfl ?_)
                    all_goals ((refine E.OW.call nm63 rfl rfl rfl rfl rfl rfl _ (fun w hw => ClI_ok _ _ _ w ?_ ?_) ?_; (focus (omega)); (focus (refine hw.rd ?_; assumption)); rintro _ _ ⟨AX28, cX28, rfl, rfl⟩))
                    all_goals (refine E.AW.nil [] rfl ?_)
                    all_goals (refine E.AW.one 10 (by kernel_rfl) rfl ?_)
                    all_goals (refine E.OW.store (i := 4) in50.size rfl rfl rfl rfl rfl rfl rfl rfl rfl ?_)
                    all_goals (refine E.AW.nil [] rfl ?_)
                    all_goals (refine E.AW.first 11 rfl (by kernel_rfl) (by kernel_rfl) (by kernel_rfl) rfl rfl rfl (E.PV.fieldAddr fa52_1 rfl rfl) ?_)
                    all_goals (refine E.AW.one 12 (by kernel_rfl) rfl ?_)
                    all_goals (refine E.OW.store (i := 0) in50.size rfl rfl rfl rfl rfl rfl rfl rfl rfl ?_)
                    all_goals (refine E.AW.nil [] rfl ?_)
                    all_goals (refine E.AW.first 13 rfl (by kernel_rfl) (by kernel_rfl) (by kernel_rfl) rfl rfl rfl (E.PV.fieldAddr fa52_2 rfl rfl) ?_)
                    all_goals (refine E.AW.one 14 (by kernel_rfl) rfl ?_)
                    all_goals (refine E.OW.store (i := 0) in50.size rfl rfl rfl rfl rfl rfl rfl rfl rfl ?_)
                    all_goals (refine E.AW.nil [] rfl ?_)
                    all_goals (refine E.AW.done (by kernel_rfl) ?_))
          case' gb8 =>
              all_goals (refine E.OW.pure rfl rfl rfl (E.PV.load (i := 1) na50 rfl rfl rfl rfl) ?_)
              all_goals (refine E.AW.nil [] rfl ?_)
              all_goals (refine E.AW.one 1 (by kernel_rfl) rfl ?_)
              all_goals (refine E.OW.pure rfl rfl rfl (E.PV.load (i := 1) na50 rfl rfl rfl rfl) ?_)
              all_goals (refine E.AW.nil [] rfl ?_)
              all_goals (refine E.AW.one 2 (by kernel_rfl) rfl ?_)
              all_goals ((refine E.OW.call nm63 rfl rfl rfl rfl rfl rfl _ (fun w hw => ClI_ok _ _ _ w ?_ ?_) ?_; (focus (omega)); (focus (refine hw.rd ?_; assumption)); rintro _ _ ⟨AX29, cX29, rfl, rfl⟩))
              all_goals (refine E.AW.nil [] rfl ?_)
              all_goals (refine E.AW.first 9 rfl (by kernel_rfl) (by kernel_rfl) (by kernel_rfl) rfl rfl rfl (E.PV.fieldAddr fa52_0 rfl rfl) ?_)
              all_goals (refine E.AW.one 5 (by kernel_rfl) rfl ?_)
              all_goals ((refine E.OW.call nm63 rfl rfl rfl rfl rfl rfl _ (fun w hw => ClI_ok _ _ _ w ?_ ?_) ?_; (focus (omega)); (focus (refine hw.rd ?_; assumption)); rintro _ _ ⟨AX30, cX30, rfl, rfl⟩))
              all_goals (refine E.AW.nil [] rfl ?_)
              all_goals (refine E.AW.one 8 (by kernel_rfl) rfl ?_)
              all_goals ((refine E.OW.call nm63 rfl rfl rfl rfl rfl rfl _ (fun w hw => ClI_ok _ _ _ w ?_ ?_) ?_; (focus (omega)); (focus (refine hw.rd ?_; assumption)); rintro _ _ ⟨AX31, cX31, rfl, rfl⟩))
              all_goals (refine E.AW.nil [] rfl ?_)
              all_goals (refine E.AW.one 10 (by kernel_rfl) rfl ?_)
              all_goals (refine E.OW.store (i := 4) in50.size rfl rfl rfl rfl rfl rfl rfl rfl rfl ?_)
              all_goals (refine E.AW.nil [] rfl ?_)
              all_goals (refine E.AW.first 11 rfl (by kernel_rfl) (by kernel_rfl) (by kernel_rfl) rfl rfl rfl (E.PV.fieldAddr fa52_1 rfl rfl) ?_)
              all_goals (refine E.AW.one 12 (by kernel_rfl) rfl ?_)
              all_goals (refine E.OW.store (i := 0) in50.size rfl rfl rfl rfl rfl rfl rfl rfl rfl ?_)
              all_goals (refine E.AW.nil [] rfl ?_)
              all_goals (refine E.AW.first 13 rfl (by kernel_rfl) (by kernel_rfl) (by kernel_rfl) rfl rfl rfl (E.PV.fieldAddr fa52_2 rfl rfl) ?_)
              all_goals (refine E.AW.one 14 (by kernel_rfl) rfl ?_)
              all_goals (refine E.OW.store (i := 0) in50.size rfl rfl rfl rfl rfl rfl rfl rfl rfl ?_)
              all_goals (refine E.AW.nil [] rfl ?_)
              all_goals (refine E.AW.done (by kernel_rfl) ?_))
    case' gc1 =>
        all_goals (refine E.OW.pure rfl rfl rfl (E.PV.load (i := 1) na50 rfl rfl rfl rfl) ?_)
        all_goals (refine E.AW.nil [] rfl ?_)
        all_goals (
          refine E.AW.two 1 4 (by kernel_rfl) rfl rfl ?ga11 ?gb11
          case' ga11 =>
              all_goals (refine E.OW.pure rfl rfl rfl (E.PV.load (i := 1) na50 rfl rfl rfl rfl) ?_)
              all_goals (refine E.AW.nil [] rfl ?_)
              all_goals (
                refine E.AW.two 2 4 (by kernel_rfl) rfl rfl ?ga12 ?gb12
                case' ga12 =>
                    all_goals ((refine E.OW.call nm63 rfl rfl rfl rfl rfl rfl _ (fun w hw => ClI_ok _ _ _ w ?_ ?_) ?_; (focus (omega)); (focus (refine hw.rd ?_; assumption)); rintro _ _ ⟨AX32, cX32, rfl, rfl⟩))
                    all_goals (refine E.AW.nil [] rfl ?_)
                    all_goals (refine E.AW.one 4 (by kernel_rfl) rfl ?_)
                    all_goals (refine E.OW.pure rfl rfl rfl (E.PV.load (i := 2) na50 rfl rfl rfl rfl) ?_)
                    all_goals (refine E.AW.nil [] rfl ?_)
                    all_goals (refine E.AW.first 9 rfl (by kernel_rfl) (by kernel_rfl) (by kernel_rfl) rfl rfl rfl (E.PV.fieldAddr fa52_0 rfl rfl) ?_)
                    all_goals (refine E.AW.one 5 (by kernel_rfl) rfl ?_)
                    all_goals ((refine E.OW.call nm63 rfl rfl rfl rfl rfl rfl _ (fun w hw => ClI_ok _ _ _ w ?_ ?_) ?_; (focus (omega)); (focus (refine hw.rd ?_; assumption)); rintro _ _ ⟨AX33, cX33, rfl, rfl⟩))
                    all_goals (refine E.AW.nil [] rfl ?_)
                    all_goals (refine E.AW.one 8 (by kernel_rfl) rfl ?_)
                    all_goals ((refine E.OW.call nm63 rfl rfl rfl rfl rfl rfl _ (fun w hw => ClI_ok _ _ _ w ?_ ?_) ?_; (focus (omega)); (focus (refine hw.rd ?_; assumption)); rintro _ _ ⟨AX34, cX34, rfl, rfl⟩))
                    all_goals (refine E.AW.nil [] rfl ?_)
                    all_goals (refine E.AW.one 10 (by kernel_rfl) rfl ?_)
                    all_goals (refine E.OW.store (i := 4) in50.size rfl rfl rfl rfl rfl rfl rfl rfl rfl ?_)
                    all_goals (refine E.AW.nil [] rfl ?_)
                    all_goals (refine E.AW.first 11 rfl (by kernel_rfl) (by kernel_rfl) (by kernel_rfl) rfl rfl rfl (E.PV.fieldAddr fa52_1 rfl rfl) ?_)
                    all_goals (refine E.AW.one 12 (by kernel_rfl) rfl ?_)
                    all_goals (refine E.OW.store (i := 0) in50.size rfl rfl rfl rfl rfl rfl rfl rfl rfl ?_)
                    all_goals (refine E.AW.nil [] rfl ?_)
                    all_goals (refine E.AW.first 13 rfl (by kernel_rfl) (by kernel_rfl) (by kernel_rfl) rfl rfl rfl (E.PV.fieldAddr fa52_2 rfl rfl) ?_)
                    all_goals (refine E.AW.one 14 (by kernel_rfl) rfl ?_)
                    all_goals (refine E.OW.store (i := 0) in50.size rfl rfl rfl rfl rfl rfl rfl rfl rfl ?_)
                    all_goals (refine E.AW.nil [] rfl ?_)
                    all_goals (refine E.AW.done (by kernel_rfl) ?_)
                case' gb12 =>
                    all_goals (refine E.OW.pure rfl rfl rfl (E.PV.load (i := 1) na50 rfl rfl rfl rfl) ?_)
                    all_goals (refine E.AW.nil [] rfl ?_)
                    all_goals (refine E.AW.one 2 (by kernel_rfl) rfl ?_)
                    all_goals ((refine E.OW.call nm63 rfl rfl rfl rfl rfl rfl _ (fun w hw => ClI_ok _ _ _ w ?_ ?_) ?_; (focus (omega)); (focus (refine hw.rd ?_; assumption)); rintro _ _ ⟨AX35, cX35, rfl, rfl⟩))
                    all_goals (refine E.AW.nil [] rfl ?_)
                    all_goals (refine E.AW.first 9 rfl (by kernel_rfl) (by kernel_rfl) (by kernel_rfl) rfl rfl rfl (E.PV.fieldAddr fa52_0 rfl rfl) ?_)
                    all_goals (refine E.AW.one 5 (by kernel_rfl) rfl ?_)
                    all_goals ((refine E.OW.call nm63 rfl rfl rfl rfl rfl rfl _ (fun w hw => ClI_ok _ _ _ w ?_ ?_) ?_; (focus (omega)); (focus (refine hw.rd ?_; assumption)); rintro _ _ ⟨AX36, cX36, rfl, rfl⟩))
                    all_goals (refine E.AW.nil [] rfl ?_)
                    all_goals (refine E.AW.one 8 (by kernel_rfl) rfl ?_)
                    all_goals ((refine E.OW.call nm63 rfl rfl rfl rfl rfl rfl _ (fun w hw => ClI_ok _ _ _ w ?_ ?_) ?_; (focus (omega)); (focus (refine hw.rd ?_; assumption)); rintro _ _ ⟨AX37, cX37, rfl, rfl⟩))
                    all_goals (refine E.AW.nil [] rfl ?_)
                    all_goals (refine E.AW.one 10 (by kernel_rfl) rfl ?_)
                    all_goals (refine E.OW.store (i := 4) in50.size rfl rfl rfl rfl rfl rfl rfl rfl rfl ?_)
                    all_goals (refine E.AW.nil [] rfl ?_)
                    all_goals (refine E.AW.first 11 rfl (by kernel_rfl) (by kernel_rfl) (by kernel_rfl) rfl rfl rfl (E.PV.fieldAddr fa52_1 rfl rfl) ?_)
                    all_goals (refine E.AW.one 12 (by kernel_rfl) rfl ?_)
                    all_goals (refine E.OW.store (i := 0) in50.size rfl rfl rfl rfl rfl rfl rfl rfl rfl ?_)
                    all_goals (refine E.AW.nil [] rfl ?_)
                    all_goals (refine E.AW.first 13 rfl (by kernel_rfl) (by kernel_rfl) (by kernel_rfl) rfl rfl rfl (E.PV.fieldAddr fa52_2 rfl rfl) ?_)
                    all_goals (refine E.AW.one 14 (by kernel_rfl) rfl ?_)
                    all_goals (refine E.OW.store (i := 0) in50.size rfl rfl rfl rfl rfl rfl rfl rfl rfl ?_)
                    all_goals (refine E.AW.nil [] rfl ?_)
                    all_goals (refine E.AW.done (by kernel_rfl) ?_))
          case' gb11 =>
              all_goals (refine E.OW.pure rfl rfl rfl (E.PV.load (i := 1) na50 rfl rfl rfl rfl) ?_)
              all_goals (refine E.AW.nil [] rfl ?_)
              all_goals (refine E.AW.one 1 (by kernel_rfl) rfl ?_)
              all_goals (refine E.OW.pure rfl rfl rfl (E.PV.load (i := 1) na50 rfl rfl rfl rfl) ?_)
              all_goals (refine E.AW.nil [] rfl ?_)
              all_goals (refine E.AW.one 2 (by kernel_rfl) rfl ?_)
              all_goals ((refine E.OW.call nm63 rfl rfl rfl rfl rfl rfl _ (fun w hw => ClI_ok _ _ _ w ?_ ?_) ?_; (focus (omega)); (focus (refine hw.rd ?_; assumption)); rintro _ _ ⟨AX38, cX38, rfl, rfl⟩))
              all_goals (refine E.AW.nil [] rfl ?_)
              all_goals (refine E.AW.first 9 rfl (by kernel_rfl) (by kernel_rfl) (by kernel_rfl) rfl rfl rfl (E.PV.fieldAddr fa52_0 rfl rfl) ?_)
              all_goals (refine E.AW.one 5 (by kernel_rfl) rfl ?_)
              all_goals ((refine E.OW.call nm63 rfl rfl rfl rfl rfl rfl _ (fun w hw => ClI_ok _ _ _ w ?_ ?_) ?_; (focus (omega)); (focus (refine hw.rd ?_; assumption)); rintro _ _ ⟨AX39, cX39, rfl, rfl⟩))
              all_goals (refine E.AW.nil [] rfl ?_)
              all_goals (refine E.AW.one 8 (by kernel_rfl) rfl ?_)
              all_goals ((refine E.OW.call nm63 rfl rfl rfl rfl rfl rfl _ (fun w hw => ClI_ok _ _ _ w ?_ ?_) ?_; (focus (omega)); (focus (refine hw.rd ?_; assumption)); rintro _ _ ⟨AX40, cX40, rfl, rfl⟩))
              all_goals (refine E.AW.nil [] rfl ?_)
              all_goals (refine E.AW.one 10 (by kernel_rfl) rfl ?_)
              all_goals (refine E.OW.store (i := 4) in50.size rfl rfl rfl rfl rfl rfl rfl rfl rfl ?_)
              all_goals (refine E.AW.nil [] rfl ?_)
              all_goals (refine E.AW.first 11 rfl (by kernel_rfl) (by kernel_rfl) (by kernel_rfl) rfl rfl rfl (E.PV.fieldAddr fa52_1 rfl rfl) ?_)
              all_goals (refine E.AW.one 12 (by kernel_rfl) rfl ?_)
              all_goals (refine E.OW.store (i := 0) in50.size rfl rfl rfl rfl rfl rfl rfl rfl rfl ?_)
              all_goals (refine E.AW.nil [] rfl ?_)
              all_goals (refine E.AW.first 13 rfl (by kernel_rfl) (by kernel_rfl) (by kernel_rfl) rfl rfl rfl (E.PV.fieldAddr fa52_2 rfl rfl) ?_)
              all_goals (refine E.AW.one 14 (by kernel_rfl) rfl ?_)
              all_goals (refine E.OW.store (i := 0) in50.size rfl rfl rfl rfl rfl rfl rfl rfl rfl ?_)
              all_goals (refine E.AW.nil [] rfl ?_)
              all_goals (refine E.AW.done (by kernel_rfl) ?_)))
  all_goals (
    skip
    refine E.then_n ?_
    refine E.CW.seq ?_
    refine E.CW.gather [3, 2, 1, 0, 0] 3 rfl rfl ?_
    refine E.CW.region ?_
    refine E.OW.pure rfl rfl rfl (E.PV.loads (i := 1) is52 rfl rfl rfl rfl) ?_
    refine E.OW.store (i := 2) in52.size rfl rfl rfl rfl rfl rfl rfl rfl rfl ?_
    refine E.OW.nil ?_
    refine E.then_n ?_
    refine E.CW.ret ?_
    refine E.KR.rv1 [1] Try.results41 (E.rv.cell is52 rfl (E.sli 0 rfl) rfl) rfl ?_
    exact ⟨⟨m.q, _, _, _, _, _, _⟩, rfl, rfl, rfl⟩)

set_option maxRecDepth 100000 in
theorem On_ok (g : E.Cfg) (t : Int) (w0 : World) (hg : g.rd w0 (E.Old w0)) (hgf : g.q.fit) :
    Calls Try.prog 14 #[g.v, .int .i64 t] w0 (E.Post w0 (E.Old w0) fun v Hn => ∃ g2 : E.Cfg, v = .tuple #[g2.v, .int .i64 (Cf.onlyR g.q t).2] ∧ Hn = [E.HP.cfg g2] ∧ g2.q = (Cf.onlyR g.q t).1) := by
  obtain ⟨hX1, hX2, hX3, hX4⟩ := id hg
  have hgl := E.Cfg.fit_len hgf
  have htn := E.Cfg.ts_len g
  refine E.calls_of (vs := [g.v, .int .i64 t]) (H := []) Try.func14 Try.ntmps14 rfl rfl (E.HA.start w0) ?_
  refine E.CW.seq ?_
  refine E.CW.region ?_
  refine E.OW.box rfl rfl rfl rfl rfl rfl (fun B1 => ?_)
  refine E.OW.alloc (in28.zr) rfl rfl rfl rfl rfl (fun B2 => ?_)
  refine E.OW.pure rfl rfl rfl (E.PV.assign rfl rfl) ?_
  refine E.OW.nil ?_
  refine E.then_n ?_
  refine E.CW.seq ?_
  refine E.CW.seq ?_
  refine E.CW.region ?_
  refine E.OW.pure rfl rfl rfl (E.PV.loads (i := 1) is28 rfl rfl rfl rfl) ?_
  (refine E.OW.call nm6 rfl rfl rfl rfl rfl rfl _ (fun w hw => Ck_ok _ w ?_ ?_) ?_; (focus (refine hw.rdC ?_; assumption)); (focus (assumption)); rintro _ _ ⟨rfl, rfl⟩)
  refine E.OW.pure rfl rfl rfl (E.PV.assign rfl rfl) ?_
  refine E.OW.nil ?_
  refine E.then_n ?_
  refine E.CW.seq ?_
  refine E.CW.region ?_
  refine E.OW.pure rfl rfl rfl (E.PV.move rfl rfl) ?_
  refine E.OW.pure rfl rfl rfl (E.PV.neq rfl rfl rfl) ?_
  refine E.OW.nil ?_
  refine E.then_n ?_
  refine E.CW.cond rfl (fun hc => ?_) (fun hc => ?_)
  · simp only [E.b0, E.b1, E.b2, E.b3, E.b4, E.b5, E.b6, E.b7, E.b8, E.b9, E.b10, E.b11, E.b12, E.b13, E.b14, E.b15, E.b16, E.b17, E.b18, E.b19, E.b20, reduceCtorEq] at hc
    all_goals (
      refine E.CW.seq ?_
      refine E.CW.cfgz ?_
      refine E.CW.region ?_
      refine E.OW.pure rfl rfl rfl (E.PV.build (ps := []) rfl rfl (fun w => bld28_ w)) ?_
      refine E.OW.pure rfl rfl rfl (E.PV.move rfl rfl) ?_
      refine E.OW.store (i := 1) in28.size rfl rfl rfl rfl rfl rfl rfl rfl rfl ?_
      refine E.OW.pure rfl rfl rfl (E.PV.assign rfl rfl) ?_
      refine E.OW.nil ?_
      refine E.then_n ?_
      refine E.CW.ret ?_
      refine E.then_ret ?_
      refine E.KR.rv2 [1] Try.results14 (E.rv.cell is28 rfl (E.sli 0 rfl) rfl) rfl rfl ?_
      have hcc : ¬ Cf.check g.q = 0 := by assumption
      rw [show Cf.onlyR g.q t = (Cf.zero, Cf.check g.q) from if_neg hcc]
      exact ⟨E.Cfg.z, rfl, rfl, rfl⟩)
  · simp only [E.b0, E.b1, E.b2, E.b3, E.b4, E.b5, E.b6, E.b7, E.b8, E.b9, E.b10, E.b11, E.b12, E.b13, E.b14, E.b15, E.b16, E.b17, E.b18, E.b19, E.b20, reduceCtorEq] at hc
    all_goals (
      refine E.CW.skip ?_
      refine E.then_n ?_
      refine E.CW.seq ?_
      refine E.CW.seq ?_
      have hcz : Cf.check g.q = 0 := by assumption
      refine E.CW.region ?_
      refine E.OW.pure rfl rfl rfl (E.PV.loads (i := 1) is28 rfl rfl rfl rfl) ?_
      refine E.OW.pure rfl rfl rfl (E.PV.move rfl rfl) ?_
      (refine E.OW.call nm39 rfl rfl rfl rfl rfl rfl _ (fun w hw => Pr_ok _ _ w ?_ ?_) ?_; (focus (refine hw.rdC ?_; assumption)); (focus (assumption)); rintro _ _ ⟨rfl, rfl⟩)
      refine E.OW.pure rfl rfl rfl (E.PV.not rfl rfl) ?_
      refine E.OW.nil ?_
      refine E.then_n ?_
      refine E.CW.cond rfl (fun hc => ?_) (fun hc => ?_)
      · simp only [E.b0, E.b1, E.b2, E.b3, E.b4, E.b5, E.b6, E.b7, E.b8, E.b9, E.b10, E.b11, E.b12, E.b13, E.b14, E.b15, E.b16, E.b17, E.b18, E.b19, E.b20, reduceCtorEq] at hc
        all_goals (
          refine E.CW.seq ?_
          refine E.CW.cfgz ?_
          refine E.CW.region ?_
          refine E.OW.pure rfl rfl rfl (E.PV.build (ps := []) rfl rfl (fun w => bld28_ w)) ?_
          refine E.OW.store (i := 1) in28.size rfl rfl rfl rfl rfl rfl rfl rfl rfl ?_
          refine E.OW.pure rfl rfl rfl (E.PV.assign rfl rfl) ?_
          refine E.OW.nil ?_
          refine E.then_n ?_
          refine E.CW.ret ?_
          refine E.then_ret ?_
          refine E.KR.rv2 [1] Try.results14 (E.rv.cell is28 rfl (E.sli 0 rfl) rfl) rfl rfl ?_
          have hpp : Cf.present g.q.ts t = false := by assumption
          rw [show Cf.onlyR g.q t = (Cf.zero, 2) from (if_pos hcz).trans (by rw [hpp]; rfl)]
          exact ⟨E.Cfg.z, rfl, rfl, rfl⟩)
      · simp only [E.b0, E.b1, E.b2, E.b3, E.b4, E.b5, E.b6, E.b7, E.b8, E.b9, E.b10, E.b11, E.b12, E.b13, E.b14, E.b15, E.b16, E.b17, E.b18, E.b19, E.b20, reduceCtorEq] at hc
        all_goals (
          refine E.CW.skip ?_
          refine E.then_n ?_
          refine E.CW.seq ?_
          have hpp : Cf.present g.q.ts t = true := by assumption
          have htb := Cf.present_b hpp
          have ht3 := Cf.teams_len (Cf.check_zero hcz).2.2.1
          rw [htn] at htb ht3
          refine E.CW.region ?_
          refine E.OW.pure rfl rfl rfl (E.PV.move rfl rfl) ?_
          refine E.OW.pure rfl rfl rfl (E.PV.conv_in Try.underlying3 Try.underlying5 rfl rfl ?_) ?_; (focus (first | exact E.wrap_u8 _ | (simp only [IntKind.wrap_i64, IntKind.wrap_u64, IntKind.wrap_u8]; omega)))
          refine E.OW.pure rfl rfl rfl (E.PV.add rfl rfl rfl) ?_
          refine E.OW.pure rfl rfl rfl (E.PV.assign rfl rfl) ?_
          refine E.OW.nil ?_
          refine E.then_n ?_
          refine E.CW.seq ?_
          refine E.CW.put 7 (.int .u8 (t + 1)) rfl (by refine congrArg (Value.int .u8) ?_; simp only [IntKind.wrap_u8]; omega) ?_
          refine E.CW.drawx mixed [1] rfl ?_
          all_goals (refine E.AW.first 0 rfl (by kernel_rfl) (by kernel_rfl) (by kernel_rfl) rfl rfl rfl (E.PV.fieldAddr fa28_0 rfl rfl) ?_)
          all_goals (refine E.AW.first 1 rfl (by kernel_rfl) (by kernel_rfl) (by kernel_rfl) rfl rfl rfl (E.PV.loads (i := 0) is24 rfl rfl rfl rfl) ?_)
          all_goals (refine E.AW.first 2 rfl (by kernel_rfl) (by kernel_rfl) (by kernel_rfl) rfl rfl rfl (E.PV.fieldAddr fa28_2 rfl rfl) ?_)
          all_goals (refine E.AW.first 3 rfl (by kernel_rfl) (by kernel_rfl) (by kernel_rfl) rfl rfl rfl (E.PV.load (i := 0) na25 rfl rfl rfl rfl) ?_)
          all_goals (refine E.AW.first 4 rfl (by kernel_rfl) (by kernel_rfl) (by kernel_rfl) rfl rfl rfl (E.PV.len Try.underlying25 rfl rfl) ?_)
          all_goals (refine E.AW.first 6 rfl (by kernel_rfl) (by kernel_rfl) (by kernel_rfl) rfl rfl rfl (E.PV.fieldAddr fa28_3 rfl rfl) ?_)
          all_goals (refine E.AW.first 7 rfl (by kernel_rfl) (by kernel_rfl) (by kernel_rfl) rfl rfl rfl (E.PV.load (i := 0) na26 rfl rfl rfl rfl) ?_)
          all_goals (
            refine E.AW.two 5 9 (by kernel_rfl) rfl rfl ?ga1 ?gb1
            case' ga1 =>
                all_goals (refine E.OW.make_tms _ Try.underlying25 in52 rfl rfl rfl rfl rfl rfl rfl ?_ ?_ (fun AT => ?_); (focus (unfold maxLen; omega)); (focus (omega)))
                all_goals (first | (refine E.AW.nil [1] rfl ?_) | (refine E.AW.nil [2] rfl ?_) | (refine E.AW.nil [3] rfl ?_) | (refine E.AW.nil [4] rfl ?_) | (refine E.AW.nil [5] rfl ?_) | (refine E.AW.nil [6] rfl ?_) | (refine E.AW.nil [7] rfl ?_) | (refine E.AW.nil [0] rfl ?_) | (refine E.AW.nil [0] rfl ?_) | (refine E.AW.nil [4, 5] rfl ?_) | (refine E.AW.nil [2, 5] rfl ?_) | (refine E.AW.nil [5, 6] rfl ?_) | (refine E.AW.nil [3, 5] rfl ?_))
                all_goals (refine E.AW.first 8 rfl (by kernel_rfl) (by kernel_rfl) (by kernel_rfl) rfl rfl rfl (E.PV.build (ps := [(0, .tmp 28), (2, .tmp 32), (3, .tmp 34)]) rfl rfl (fun w => bld28_0_2_3 _ _ _ _ _ _ _ _ _ w)) ?_)
                all_goals (refine E.AW.one 9 (by kernel_rfl) rfl ?_)
                all_goals (refine E.OW.alloc (in28.zr) rfl rfl rfl rfl rfl (fun BO => ?_))
                all_goals (first | (refine E.AW.nil [1] rfl ?_) | (refine E.AW.nil [2] rfl ?_) | (refine E.AW.nil [3] rfl ?_) | (refine E.AW.nil [4] rfl ?_) | (refine E.AW.nil [5] rfl ?_) | (refine E.AW.nil [6] rfl ?_) | (refine E.AW.nil [7] rfl ?_) | (refine E.AW.nil [0] rfl ?_) | (refine E.AW.nil [0] rfl ?_) | (refine E.AW.nil [4, 5] rfl ?_) | (refine E.AW.nil [2, 5] rfl ?_) | (refine E.AW.nil [5, 6] rfl ?_) | (refine E.AW.nil [3, 5] rfl ?_))
                all_goals (refine E.AW.one 10 (by kernel_rfl) rfl ?_)
                all_goals (refine E.OW.store (i := 0) in28.size rfl rfl rfl rfl rfl rfl rfl rfl rfl ?_)
                all_goals (first | (refine E.AW.nil [1] rfl ?_) | (refine E.AW.nil [2] rfl ?_) | (refine E.AW.nil [3] rfl ?_) | (refine E.AW.nil [4] rfl ?_) | (refine E.AW.nil [5] rfl ?_) | (refine E.AW.nil [6] rfl ?_) | (refine E.AW.nil [7] rfl ?_) | (refine E.AW.nil [0] rfl ?_) | (refine E.AW.nil [0] rfl ?_) | (refine E.AW.nil [4, 5] rfl ?_) | (refine E.AW.nil [2, 5] rfl ?_) | (refine E.AW.nil [5, 6] rfl ?_) | (refine E.AW.nil [3, 5] rfl ?_))
                all_goals (refine E.AW.done (by kernel_rfl) ?_)
            case' gb1 =>
                all_goals (refine E.OW.alloc (in28.zr) rfl rfl rfl rfl rfl (fun BO => ?_))
                all_goals (first | (refine E.AW.nil [1] rfl ?_) | (refine E.AW.nil [2] rfl ?_) | (refine E.AW.nil [3] rfl ?_) | (refine E.AW.nil [4] rfl ?_) | (refine E.AW.nil [5] rfl ?_) | (refine E.AW.nil [6] rfl ?_) | (refine E.AW.nil [7] rfl ?_) | (refine E.AW.nil [0] rfl ?_) | (refine E.AW.nil [0] rfl ?_) | (refine E.AW.nil [4, 5] rfl ?_) | (refine E.AW.nil [2, 5] rfl ?_) | (refine E.AW.nil [5, 6] rfl ?_) | (refine E.AW.nil [3, 5] rfl ?_))
                all_goals (refine E.AW.one 5 (by kernel_rfl) rfl ?_)
                all_goals (refine E.OW.make_tms _ Try.underlying25 in52 rfl rfl rfl rfl rfl rfl rfl ?_ ?_ (fun AT => ?_); (focus (unfold maxLen; omega)); (focus (omega)))
                all_goals (first | (refine E.AW.nil [1] rfl ?_) | (refine E.AW.nil [2] rfl ?_) | (refine E.AW.nil [3] rfl ?_) | (refine E.AW.nil [4] rfl ?_) | (refine E.AW.nil [5] rfl ?_) | (refine E.AW.nil [6] rfl ?_) | (refine E.AW.nil [7] rfl ?_) | (refine E.AW.nil [0] rfl ?_) | (refine E.AW.nil [0] rfl ?_) | (refine E.AW.nil [4, 5] rfl ?_) | (refine E.AW.nil [2, 5] rfl ?_) | (refine E.AW.nil [5, 6] rfl ?_) | (refine E.AW.nil [3, 5] rfl ?_))
                all_goals (refine E.AW.first 8 rfl (by kernel_rfl) (by kernel_rfl) (by kernel_rfl) rfl rfl rfl (E.PV.build (ps := [(0, .tmp 28), (2, .tmp 32), (3, .tmp 34)]) rfl rfl (fun w => bld28_0_2_3 _ _ _ _ _ _ _ _ _ w)) ?_)
                all_goals (refine E.AW.one 10 (by kernel_rfl) rfl ?_)
                all_goals (refine E.OW.store (i := 1) in28.size rfl rfl rfl rfl rfl rfl rfl rfl rfl ?_)
                all_goals (first | (refine E.AW.nil [1] rfl ?_) | (refine E.AW.nil [2] rfl ?_) | (refine E.AW.nil [3] rfl ?_) | (refine E.AW.nil [4] rfl ?_) | (refine E.AW.nil [5] rfl ?_) | (refine E.AW.nil [6] rfl ?_) | (refine E.AW.nil [7] rfl ?_) | (refine E.AW.nil [0] rfl ?_) | (refine E.AW.nil [0] rfl ?_) | (refine E.AW.nil [4, 5] rfl ?_) | (refine E.AW.nil [2, 5] rfl ?_) | (refine E.AW.nil [5, 6] rfl ?_) | (refine E.AW.nil [3, 5] rfl ?_))
                all_goals (refine E.AW.done (by kernel_rfl) ?_))
          all_goals (
            skip
            refine E.then_n ?_
            refine E.CW.seq ?_
            refine E.CW.drawx mixed [3] rfl ?_
            all_goals (refine E.AW.first 0 rfl (by kernel_rfl) (by kernel_rfl) (by kernel_rfl) rfl rfl rfl (E.PV.fieldAddr fa28_0 rfl rfl) ?_)
            all_goals (refine E.AW.first 1 rfl (by kernel_rfl) (by kernel_rfl) (by kernel_rfl) rfl rfl rfl (E.PV.fieldAddr fa24_2 rfl rfl) ?_)
            all_goals (refine E.AW.first 2 rfl (by kernel_rfl) (by kernel_rfl) (by kernel_rfl) rfl rfl rfl (E.PV.load (i := 0) na22 rfl rfl rfl rfl) ?_)
            all_goals (refine E.AW.first 4 rfl (by kernel_rfl) (by kernel_rfl) (by kernel_rfl) rfl rfl rfl (E.PV.fieldAddr fa28_1 rfl rfl) ?_)
            all_goals (refine E.AW.first 5 rfl (by kernel_rfl) (by kernel_rfl) (by kernel_rfl) rfl rfl rfl (E.PV.load (i := 0) na22 rfl rfl rfl rfl) ?_)
            all_goals (refine E.AW.one 3 (by kernel_rfl) rfl ?_)
            all_goals ((refine E.OW.call nm40 rfl rfl rfl rfl rfl rfl _ (fun w hw => ClU_ok _ _ g.l w ?_ ?_) ?_; (focus (omega)); (focus (refine hw.rd ?_; assumption)); rintro _ _ ⟨AF, cF, rfl, rfl⟩))
            all_goals (first | (refine E.AW.nil [3] rfl ?_) | (refine E.AW.nil [4] rfl ?_) | (refine E.AW.nil [5] rfl ?_) | (refine E.AW.nil [6] rfl ?_) | (refine E.AW.nil [7] rfl ?_) | (refine E.AW.nil [8] rfl ?_) | (refine E.AW.nil [9] rfl ?_) | (refine E.AW.nil [2] rfl ?_) | (refine E.AW.nil [1] rfl ?_) | (refine E.AW.nil [4, 5] rfl ?_) | (refine E.AW.nil [2, 5] rfl ?_) | (refine E.AW.nil [5, 6] rfl ?_) | (refine E.AW.nil [3, 5] rfl ?_))
            all_goals (refine E.AW.first 7 rfl (by kernel_rfl) (by kernel_rfl) (by kernel_rfl) rfl rfl rfl (E.PV.fieldAddr fa28_0 rfl rfl) ?_)
            all_goals (refine E.AW.first 8 rfl (by kernel_rfl) (by kernel_rfl) (by kernel_rfl) rfl rfl rfl (E.PV.fieldAddr fa24_2 rfl rfl) ?_)
            all_goals (refine E.AW.one 6 (by kernel_rfl) rfl ?_)
            all_goals ((refine E.OW.call nm40 rfl rfl rfl rfl rfl rfl _ (fun w hw => ClU_ok _ _ g.s w ?_ ?_) ?_; (focus (omega)); (focus (refine hw.rd ?_; assumption)); rintro _ _ ⟨AS, cS, rfl, rfl⟩))
            all_goals (first | (refine E.AW.nil [3] rfl ?_) | (refine E.AW.nil [4] rfl ?_) | (refine E.AW.nil [5] rfl ?_) | (refine E.AW.nil [6] rfl ?_) | (refine E.AW.nil [7] rfl ?_) | (refine E.AW.nil [8] rfl ?_) | (refine E.AW.nil [9] rfl ?_) | (refine E.AW.nil [2] rfl ?_) | (refine E.AW.nil [1] rfl ?_) | (refine E.AW.nil [4, 5] rfl ?_) | (refine E.AW.nil [2, 5] rfl ?_) | (refine E.AW.nil [5, 6] rfl ?_) | (refine E.AW.nil [3, 5] rfl ?_))
            all_goals (refine E.AW.one 9 (by kernel_rfl) rfl ?_)
            all_goals (refine E.OW.store (i := 2) in22.size rfl rfl rfl rfl rfl rfl rfl rfl rfl ?_)
            all_goals (first | (refine E.AW.nil [3] rfl ?_) | (refine E.AW.nil [4] rfl ?_) | (refine E.AW.nil [5] rfl ?_) | (refine E.AW.nil [6] rfl ?_) | (refine E.AW.nil [7] rfl ?_) | (refine E.AW.nil [8] rfl ?_) | (refine E.AW.nil [9] rfl ?_) | (refine E.AW.nil [2] rfl ?_) | (refine E.AW.nil [1] rfl ?_) | (refine E.AW.nil [4, 5] rfl ?_) | (refine E.AW.nil [2, 5] rfl ?_) | (refine E.AW.nil [5, 6] rfl ?_) | (refine E.AW.nil [3, 5] rfl ?_))
            all_goals (refine E.AW.first 10 rfl (by kernel_rfl) (by kernel_rfl) (by kernel_rfl) rfl rfl rfl (E.PV.fieldAddr fa28_1 rfl rfl) ?_)
            all_goals (refine E.AW.one 11 (by kernel_rfl) rfl ?_)
            all_goals (refine E.OW.store (i := 0) in22.size rfl rfl rfl rfl rfl rfl rfl rfl rfl ?_)
            all_goals (first | (refine E.AW.nil [3] rfl ?_) | (refine E.AW.nil [4] rfl ?_) | (refine E.AW.nil [5] rfl ?_) | (refine E.AW.nil [6] rfl ?_) | (refine E.AW.nil [7] rfl ?_) | (refine E.AW.nil [8] rfl ?_) | (refine E.AW.nil [9] rfl ?_) | (refine E.AW.nil [2] rfl ?_) | (refine E.AW.nil [1] rfl ?_) | (refine E.AW.nil [4, 5] rfl ?_) | (refine E.AW.nil [2, 5] rfl ?_) | (refine E.AW.nil [5, 6] rfl ?_) | (refine E.AW.nil [3, 5] rfl ?_))
            all_goals (refine E.AW.done (by kernel_rfl) ?_)
            all_goals (
              skip
              refine E.then_n ?_
              refine E.CW.seq ?_
              refine E.CW.seq ?_
              refine E.CW.region ?_
              refine E.OW.pure rfl rfl rfl (E.PV.fieldAddr fa28_0 rfl rfl) ?_
              refine E.OW.pure rfl rfl rfl (E.PV.fieldAddr fa24_2 rfl rfl) ?_
              refine E.OW.pure rfl rfl rfl (E.PV.load (i := 0) na22 rfl rfl rfl rfl) ?_
              refine E.OW.pure rfl rfl rfl (E.PV.len Try.underlying22 rfl rfl) ?_
              refine E.OW.pure rfl rfl rfl (E.PV.move rfl rfl) ?_
              refine E.OW.nil ?_
              refine E.then_n ?_
              refine E.CW.block ?_
              refine E.CW.sels [2, 0, 0, 0, 0, 0] rfl ?_
              refine E.CW.loopk [1, 2, 4, 7, 8, 48, 49] 1 rfl rfl (fun mm mods Hm => ∃ k : Nat, mm = g.l.length - k ∧ mods = [(50, .int .i64 k)] ∧ Hm = [E.HP.row 5 1 AF g.l.length cF (E.u8s (Cf.upd (Cf.oc t) g.l k))] ∧ k ≤ g.l.length) (g.l.length) ?_ ?_
              · exact ⟨[(50, _)], (by repeat (first | exact E.cov_nil | refine ⟨rfl, ?_⟩)), 0, rfl, rfl, by rw [Cf.upd_zero], by omega⟩
              · rintro _ _ _ ⟨k, rfl, rfl, rfl, hk⟩
                have hul := Cf.upd_len (Cf.oc t) g.l k
                refine E.CW.seq ?_
                refine E.CW.region ?_
                refine E.OW.pure rfl rfl rfl (E.PV.lss rfl rfl rfl) ?_
                refine E.OW.nil ?_
                refine E.then_n ?_
                refine E.CW.seq ?_
                refine E.CW.cond rfl (fun hc => ?_) (fun hc => ?_)
                · simp only [E.b0, E.b1, E.b2, E.b3, E.b4, E.b5, E.b6, E.b7, E.b8, E.b9, E.b10, E.b11, E.b12, E.b13, E.b14, E.b15, E.b16, E.b17, E.b18, E.b19, E.b20, reduceCtorEq] at hc
                  all_goals (
                    refine E.CW.skip ?_
                    refine E.then_n ?_
                    refine E.CW.seq ?_
                    refine E.CW.block ?_
                    refine E.CW.seq ?_
                    refine E.CW.region ?_
                    refine E.OW.pure rfl rfl rfl (E.PV.move rfl rfl) ?_
                    refine E.OW.pure rfl rfl rfl (E.PV.indexAddr1 (E.rdr (i := 0) rfl) Try.underlying22 in5 rfl rfl rfl rfl ?_ ?_) ?_; (focus (first | (simp; done) | (simp; omega))); (focus (omega))
                    refine E.OW.pure rfl rfl rfl (E.PV.load_u8 (E.rdr (i := 0) rfl) na5 rfl rfl ?_) ?_; (focus (omega))
                    refine E.OW.pure rfl rfl rfl (E.PV.assign rfl rfl) ?_
                    refine E.OW.pure rfl rfl rfl (E.PV.assign rfl rfl) ?_
                    refine E.OW.nil ?_
                    refine E.then_n ?_
                    refine E.CW.seq ?_
                    refine E.CW.put 10 (.int .u8 ((g.l.getD k 0).toNat : Int)) rfl (by rw [Cf.upd_get (by omega)]) ?_
                    refine E.CW.region ?_
                    refine E.OW.pure rfl rfl rfl (E.PV.move rfl rfl) ?_
                    refine E.OW.pure rfl rfl rfl (E.PV.move rfl rfl) ?_
                    refine E.OW.pure rfl rfl rfl (E.PV.neq rfl rfl rfl) ?_
                    refine E.OW.pure rfl rfl rfl (E.PV.move rfl rfl) ?_
                    all_goals (refine E.OW.split 58 rfl (fun hc => ?_) (fun hc => ?_) <;> (try simp only [E.b0, E.b1, E.b2, E.b3, E.b4, E.b5, E.b6, E.b7, E.b8, E.b9, E.b10, E.b11, E.b12, E.b13, E.b14, E.b15, E.b16, E.b17, E.b18, E.b19, E.b20, reduceCtorEq] at hc) <;> (try (exfalso; first | assumption | contradiction | omega)))
                    all_goals (first | (refine E.OW.off rfl rfl rfl ?_) | (refine E.OW.pure rfl rfl rfl (E.PV.move rfl rfl) ?_))
                    all_goals (first | (refine E.OW.off rfl rfl rfl ?_) | (refine E.OW.pure rfl rfl rfl (E.PV.neq rfl rfl rfl) ?_))
                    all_goals (first | (refine E.OW.pure rfl rfl rfl (E.PV.pick_t rfl rfl rfl) ?_) | (refine E.OW.pure rfl rfl rfl (E.PV.pick_f rfl rfl rfl) ?_))
                    all_goals (
                      refine E.OW.nil ?_
                      refine E.then_n ?_
                      refine E.CW.cond rfl (fun hc => ?_) (fun hc => ?_)
                      · first | ((cases hc; done)) | (simp only [E.b0, E.b1, E.b2, E.b3, E.b4, E.b5, E.b6, E.b7, E.b8, E.b9, E.b10, E.b11, E.b12, E.b13, E.b14, E.b15, E.b16, E.b17, E.b18, E.b19, E.b20, reduceCtorEq] at hc)
                        all_goals (
                          refine E.CW.region ?_
                          refine E.OW.pure rfl rfl rfl (E.PV.fieldAddr fa28_0 rfl rfl) ?_
                          refine E.OW.pure rfl rfl rfl (E.PV.fieldAddr fa24_2 rfl rfl) ?_
                          refine E.OW.pure rfl rfl rfl (E.PV.load (i := 1) na22 rfl rfl rfl rfl) ?_
                          refine E.OW.pure rfl rfl rfl (E.PV.move rfl rfl) ?_
                          refine E.OW.pure rfl rfl rfl (E.PV.indexAddr1 (E.rdr (i := 0) rfl) Try.underlying22 in5 rfl rfl rfl rfl ?_ ?_) ?_; (focus (first | (simp; done) | (simp; omega))); (focus (omega))
                          refine E.OW.store_u8 (i := 0) (b := 0) in5.size rfl rfl rfl rfl rfl rfl ?_ ?_; (focus (omega))
                          refine E.OW.nil ?_
                          refine E.blk_n ?_
                          refine E.then_n ?_
                          refine E.CW.region ?_
                          refine E.OW.pure rfl rfl rfl (E.PV.add_i64 rfl rfl rfl ?_) ?_; (focus (omega))
                          refine E.OW.pure rfl rfl rfl (E.PV.move rfl rfl) ?_
                          refine E.OW.nil ?_
                          refine E.then_nf ?_
                          refine ⟨_, [(50, _)], [0, 0, 0, 0, 0, 0], _, ?_, by repeat (first | exact E.cov_nil | refine ⟨rfl, ?_⟩), rfl, k + 1, rfl, rfl, by rw [← Cf.upd_step (show k < g.l.length by omega) (Cf.oc_no (by omega) (by omega))], by omega⟩
                          omega)
                      · simp only [E.b0, E.b1, E.b2, E.b3, E.b4, E.b5, E.b6, E.b7, E.b8, E.b9, E.b10, E.b11, E.b12, E.b13, E.b14, E.b15, E.b16, E.b17, E.b18, E.b19, E.b20, reduceCtorEq] at hc
                        all_goals (
                          refine E.CW.skip ?_
                          refine E.blk_n ?_
                          refine E.then_n ?_
                          refine E.CW.region ?_
                          refine E.OW.pure rfl rfl rfl (E.PV.add_i64 rfl rfl rfl ?_) ?_; (focus (omega))
                          refine E.OW.pure rfl rfl rfl (E.PV.move rfl rfl) ?_
                          refine E.OW.nil ?_
                          refine E.then_nf ?_
                          refine ⟨_, [(50, _)], [0, 0, 0, 0, 0, 0], _, ?_, by repeat (first | exact E.cov_nil | refine ⟨rfl, ?_⟩), rfl, k + 1, rfl, rfl, by rw [← Cf.upd_same (show k < g.l.length by omega) (Cf.oc_yes (by omega))], by omega⟩
                          omega)))
                · simp only [E.b0, E.b1, E.b2, E.b3, E.b4, E.b5, E.b6, E.b7, E.b8, E.b9, E.b10, E.b11, E.b12, E.b13, E.b14, E.b15, E.b16, E.b17, E.b18, E.b19, E.b20, reduceCtorEq] at hc
                  all_goals (
                    refine E.CW.exit ?_
                    refine E.then_x ?_
                    refine E.then_x ?_
                    refine E.blk_eq ?_
                    refine E.then_n ?_
                    refine E.CW.seq ?_
                    refine E.CW.seq ?_
                    have hk1 : k = g.l.length := by omega
                    refine E.CW.region ?_
                    refine E.OW.pure rfl rfl rfl (E.PV.fieldAddr fa28_1 rfl rfl) ?_
                    refine E.OW.pure rfl rfl rfl (E.PV.load (i := 1) na22 rfl rfl rfl rfl) ?_
                    refine E.OW.pure rfl rfl rfl (E.PV.len Try.underlying22 rfl rfl) ?_
                    refine E.OW.pure rfl rfl rfl (E.PV.move rfl rfl) ?_
                    refine E.OW.nil ?_
                    refine E.then_n ?_
                    refine E.CW.block ?_
                    refine E.CW.sels [2, 0, 0, 0, 0, 0] rfl ?_
                    refine E.CW.loopk [1, 2, 4, 7, 8, 69, 70] 1 rfl rfl (fun mm mods Hm => ∃ k : Nat, mm = g.s.length - k ∧ mods = [(71, .int .i64 k)] ∧ Hm = [E.HP.row 5 1 AS g.s.length cS (E.u8s (Cf.upd (Cf.os t) g.s k))] ∧ k ≤ g.s.length) (g.s.length) ?_ ?_
                    · exact ⟨[(71, _)], (by repeat (first | exact E.cov_nil | refine ⟨rfl, ?_⟩)), 0, rfl, rfl, by rw [Cf.upd_zero], by omega⟩
                    · rintro _ _ _ ⟨k, rfl, rfl, rfl, hk⟩
                      have hul := Cf.upd_len (Cf.os t) g.s k
                      refine E.CW.seq ?_
                      refine E.CW.region ?_
                      refine E.OW.pure rfl rfl rfl (E.PV.lss rfl rfl rfl) ?_
                      refine E.OW.nil ?_
                      refine E.then_n ?_
                      refine E.CW.seq ?_
                      refine E.CW.cond rfl (fun hc => ?_) (fun hc => ?_)
                      · simp only [E.b0, E.b1, E.b2, E.b3, E.b4, E.b5, E.b6, E.b7, E.b8, E.b9, E.b10, E.b11, E.b12, E.b13, E.b14, E.b15, E.b16, E.b17, E.b18, E.b19, E.b20, reduceCtorEq] at hc
                        all_goals (
                          refine E.CW.skip ?_
                          refine E.then_n ?_
                          refine E.CW.seq ?_
                          refine E.CW.block ?_
                          refine E.CW.seq ?_
                          refine E.CW.region ?_
                          refine E.OW.pure rfl rfl rfl (E.PV.move rfl rfl) ?_
                          refine E.OW.pure rfl rfl rfl (E.PV.indexAddr1 (E.rdr (i := 0) rfl) Try.underlying22 in5 rfl rfl rfl rfl ?_ ?_) ?_; (focus (first | (simp; done) | (simp; omega))); (focus (omega))
                          refine E.OW.pure rfl rfl rfl (E.PV.load_u8 (E.rdr (i := 0) rfl) na5 rfl rfl ?_) ?_; (focus (omega))
                          refine E.OW.pure rfl rfl rfl (E.PV.assign rfl rfl) ?_
                          refine E.OW.pure rfl rfl rfl (E.PV.assign rfl rfl) ?_
                          refine E.OW.nil ?_
                          refine E.then_n ?_
                          refine E.CW.seq ?_
                          refine E.CW.put 12 (.int .u8 ((g.s.getD k 0).toNat : Int)) rfl (by rw [Cf.upd_get (by omega)]) ?_
                          refine E.CW.region ?_
                          refine E.OW.pure rfl rfl rfl (E.PV.move rfl rfl) ?_
                          refine E.OW.pure rfl rfl rfl (E.PV.move rfl rfl) ?_
                          refine E.OW.pure rfl rfl rfl (E.PV.neq rfl rfl rfl) ?_
                          refine E.OW.nil ?_
                          refine E.then_n ?_
                          refine E.CW.cond rfl (fun hc => ?_) (fun hc => ?_)
                          · simp only [E.b0, E.b1, E.b2, E.b3, E.b4, E.b5, E.b6, E.b7, E.b8, E.b9, E.b10, E.b11, E.b12, E.b13, E.b14, E.b15, E.b16, E.b17, E.b18, E.b19, E.b20, reduceCtorEq] at hc
                            all_goals (
                              refine E.CW.region ?_
                              refine E.OW.pure rfl rfl rfl (E.PV.fieldAddr fa28_1 rfl rfl) ?_
                              refine E.OW.pure rfl rfl rfl (E.PV.load (i := 2) na22 rfl rfl rfl rfl) ?_
                              refine E.OW.pure rfl rfl rfl (E.PV.move rfl rfl) ?_
                              refine E.OW.pure rfl rfl rfl (E.PV.indexAddr1 (E.rdr (i := 0) rfl) Try.underlying22 in5 rfl rfl rfl rfl ?_ ?_) ?_; (focus (first | (simp; done) | (simp; omega))); (focus (omega))
                              refine E.OW.store_u8 (i := 0) (b := 0) in5.size rfl rfl rfl rfl rfl rfl ?_ ?_; (focus (omega))
                              refine E.OW.nil ?_
                              refine E.blk_n ?_
                              refine E.then_n ?_
                              refine E.CW.region ?_
                              refine E.OW.pure rfl rfl rfl (E.PV.add_i64 rfl rfl rfl ?_) ?_; (focus (omega))
                              refine E.OW.pure rfl rfl rfl (E.PV.move rfl rfl) ?_
                              refine E.OW.nil ?_
                              refine E.then_nf ?_
                              refine ⟨_, [(71, _)], [0, 0, 0, 0, 0, 0], _, ?_, by repeat (first | exact E.cov_nil | refine ⟨rfl, ?_⟩), rfl, k + 1, rfl, rfl, by rw [← Cf.upd_step (show k < g.s.length by omega) (Cf.os_no (by omega))], by omega⟩
                              omega)
                          · simp only [E.b0, E.b1, E.b2, E.b3, E.b4, E.b5, E.b6, E.b7, E.b8, E.b9, E.b10, E.b11, E.b12, E.b13, E.b14, E.b15, E.b16, E.b17, E.b18, E.b19, E.b20, reduceCtorEq] at hc
                            all_goals (
                              refine E.CW.skip ?_
                              refine E.blk_n ?_
                              refine E.then_n ?_
                              refine E.CW.region ?_
                              refine E.OW.pure rfl rfl rfl (E.PV.add_i64 rfl rfl rfl ?_) ?_; (focus (omega))
                              refine E.OW.pure rfl rfl rfl (E.PV.move rfl rfl) ?_
                              refine E.OW.nil ?_
                              refine E.then_nf ?_
                              refine ⟨_, [(71, _)], [0, 0, 0, 0, 0, 0], _, ?_, by repeat (first | exact E.cov_nil | refine ⟨rfl, ?_⟩), rfl, k + 1, rfl, rfl, by rw [← Cf.upd_same (show k < g.s.length by omega) (Cf.os_yes (by omega))], by omega⟩
                              omega))
                      · simp only [E.b0, E.b1, E.b2, E.b3, E.b4, E.b5, E.b6, E.b7, E.b8, E.b9, E.b10, E.b11, E.b12, E.b13, E.b14, E.b15, E.b16, E.b17, E.b18, E.b19, E.b20, reduceCtorEq] at hc
                        all_goals (
                          refine E.CW.exit ?_
                          refine E.then_x ?_
                          refine E.then_x ?_
                          refine E.blk_eq ?_
                          refine E.then_n ?_
                          refine E.CW.seq ?_
                          have hk2 : k = g.s.length := by omega
                          refine E.CW.drawx mixed [2, 4] rfl ?_
                          all_goals (refine E.AW.first 0 rfl (by kernel_rfl) (by kernel_rfl) (by kernel_rfl) rfl rfl rfl (E.PV.fieldAddr fa28_2 rfl rfl) ?_)
                          all_goals (refine E.AW.first 1 rfl (by kernel_rfl) (by kernel_rfl) (by kernel_rfl) rfl rfl rfl (E.PV.load (i := 0) na25 rfl rfl rfl rfl) ?_)
                          all_goals (refine E.AW.first 2 rfl (by kernel_rfl) (by kernel_rfl) (by kernel_rfl) rfl rfl rfl (E.PV.move rfl rfl) ?_)
                          all_goals (refine E.AW.first 3 rfl (by kernel_rfl) (by kernel_rfl) (by kernel_rfl) rfl rfl rfl (E.PV.fieldAddr fa28_2 rfl rfl) ?_)
                          all_goals (refine E.AW.first 4 rfl (by kernel_rfl) (by kernel_rfl) (by kernel_rfl) rfl rfl rfl (E.PV.load (i := 1) na25 rfl rfl rfl rfl) ?_)
                          all_goals (refine E.AW.first 5 rfl (by kernel_rfl) (by kernel_rfl) (by kernel_rfl) rfl rfl rfl (E.PV.move rfl rfl) ?_)
                          all_goals (refine E.AW.first 6 rfl (by kernel_rfl) (by kernel_rfl) (by kernel_rfl) rfl rfl rfl (E.PV.indexAddr (E.rdc hX3) Try.underlying25 in52 rfl rfl rfl (E.tn ?_) ?_ ?_ (by decide)) ?_; (focus (omega)); (focus (first | (simp; done) | (simp; omega))); (focus (omega)))
                          all_goals (refine E.AW.first 7 rfl (by kernel_rfl) (by kernel_rfl) (by kernel_rfl) rfl rfl rfl (E.PV.load_tm (E.rdc hX3) is52 rfl rfl ?_) ?_; (focus (omega)))
                          all_goals (refine E.AW.one 8 (by kernel_rfl) rfl ?_)
                          all_goals ((refine E.OW.call nm41 rfl rfl rfl rfl rfl rfl _ (fun w hw => Cp_ok (g.ts.getD t.toNat E.Tm.z) w (hw.rdm (hg.m _ (E.Tm.mem (by omega)))) (E.Cfg.fit_m hgf _ (E.Tm.mem (by omega)))) ?_; rintro _ _ ⟨mC, rfl, rfl, hmC⟩))
                          all_goals (first | (refine E.AW.nil [2, 4] rfl ?_) | (refine E.AW.nil [3, 5] rfl ?_) | (refine E.AW.nil [4, 6] rfl ?_) | (refine E.AW.nil [5, 7] rfl ?_) | (refine E.AW.nil [6, 8] rfl ?_) | (refine E.AW.nil [7, 9] rfl ?_) | (refine E.AW.nil [8, 10] rfl ?_) | (refine E.AW.nil [1, 3] rfl ?_) | (refine E.AW.nil [0, 2] rfl ?_) | (refine E.AW.nil [4, 5] rfl ?_) | (refine E.AW.nil [2, 5] rfl ?_) | (refine E.AW.nil [5, 6] rfl ?_) | (refine E.AW.nil [3, 5] rfl ?_))
                          all_goals (refine E.AW.one 9 (by kernel_rfl) rfl ?_)
                          all_goals (refine E.OW.pure rfl rfl rfl (E.PV.indexAddr (E.rdr (i := 4) rfl) Try.underlying25 in52 rfl rfl rfl (E.tn ?_) ?_ ?_ (by decide)) ?_; (focus (omega)); (focus (first | (simp; done) | (simp; omega))); (focus (omega)))
                          all_goals (first | (refine E.AW.nil [2, 4] rfl ?_) | (refine E.AW.nil [3, 5] rfl ?_) | (refine E.AW.nil [4, 6] rfl ?_) | (refine E.AW.nil [5, 7] rfl ?_) | (refine E.AW.nil [6, 8] rfl ?_) | (refine E.AW.nil [7, 9] rfl ?_) | (refine E.AW.nil [8, 10] rfl ?_) | (refine E.AW.nil [1, 3] rfl ?_) | (refine E.AW.nil [0, 2] rfl ?_) | (refine E.AW.nil [4, 5] rfl ?_) | (refine E.AW.nil [2, 5] rfl ?_) | (refine E.AW.nil [5, 6] rfl ?_) | (refine E.AW.nil [3, 5] rfl ?_))
                          all_goals (refine E.AW.one 10 (by kernel_rfl) rfl ?_)
                          all_goals (refine E.OW.store_tm (i := 4) in52.size rfl rfl rfl rfl rfl rfl ?_ ?_ ?_; (focus (omega)); (focus (simp; done)))
                          all_goals (first | (refine E.AW.nil [2, 4] rfl ?_) | (refine E.AW.nil [3, 5] rfl ?_) | (refine E.AW.nil [4, 6] rfl ?_) | (refine E.AW.nil [5, 7] rfl ?_) | (refine E.AW.nil [6, 8] rfl ?_) | (refine E.AW.nil [7, 9] rfl ?_) | (refine E.AW.nil [8, 10] rfl ?_) | (refine E.AW.nil [1, 3] rfl ?_) | (refine E.AW.nil [0, 2] rfl ?_) | (refine E.AW.nil [4, 5] rfl ?_) | (refine E.AW.nil [2, 5] rfl ?_) | (refine E.AW.nil [5, 6] rfl ?_) | (refine E.AW.nil [3, 5] rfl ?_))
                          all_goals (refine E.AW.done (by kernel_rfl) ?_)
                          all_goals (
                            skip
                            refine E.then_n ?_
                            refine E.CW.seq ?_
                            refine E.CW.tmsz g.ts.length ?_
                            refine E.CW.tmsput 2 0 t.toNat rfl rfl (by simp; omega) ?_
                            refine E.CW.chunk 1 (E.HP.row 52 8 AT ((List.replicate g.ts.length E.Tm.z).set t.toNat mC).length g.ts.length (E.tms ((List.replicate g.ts.length E.Tm.z).set t.toNat mC))) rfl (by rw [List.length_set, List.length_replicate]) ?_
                            refine E.CW.chunk 2 (E.HP.row 5 1 AS (g.s.map (Cf.os t)).length cS (E.u8s (g.s.map (Cf.os t)))) rfl (by rw [hk2, Cf.upd_end, List.length_map]) ?_
                            refine E.CW.chunk 3 (E.HP.row 5 1 AF (g.l.map (Cf.oc t)).length cF (E.u8s (g.l.map (Cf.oc t)))) rfl (by rw [hk1, Cf.upd_end, List.length_map]) ?_
                            refine E.CW.gather [0, 0, 0, 0, 0, 0, 0] 4 rfl rfl ?_
                            refine E.CW.region ?_
                            refine E.OW.pure rfl rfl rfl (E.PV.loads (i := 1) is28 rfl rfl rfl rfl) ?_
                            refine E.OW.store (i := 2) in28.size rfl rfl rfl rfl rfl rfl rfl rfl rfl ?_
                            refine E.OW.pure rfl rfl rfl (E.PV.assign rfl rfl) ?_
                            refine E.OW.nil ?_
                            refine E.then_n ?_
                            refine E.CW.ret ?_
                            refine E.KR.rv2 [1] Try.results14 (E.rv.cell is28 rfl (E.sli 0 rfl) rfl) rfl rfl ?_
                            rw [show Cf.onlyR g.q t = (Cf.only g.q t, 0) from (if_pos hcz).trans (if_pos hpp)]
                            exact ⟨⟨g.a, g.b, g.l.map (Cf.oc t), g.s.map (Cf.os t), ((List.replicate g.ts.length E.Tm.z).set t.toNat mC), g.st, AF, cF, AS, cS, AT, g.ts.length⟩, by simp [E.Cfg.v, E.Cfg.cells], rfl, by simp only [E.Cfg.q, Cf.only]; rw [Cf.set_q htb hmC]; rfl⟩)))))))
end Go.Proofs.Yteibcphdbkgcgaa
