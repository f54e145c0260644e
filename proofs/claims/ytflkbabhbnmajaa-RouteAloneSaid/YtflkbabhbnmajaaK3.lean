/- Part 3 of the texts behind the laws RouteAlone, RouteFar, RouteFirst, RouteLongest, RouteShortest, RouteSpreads: the logic, plain laws and walks that they need, for any input that these speak of. -/
import Derived.RangeFuncWrites
import Derived.RangeFuncLeaves
import Derived.Test.YtflkbabhbnmajaaK2
/- Walks (printed by gen.py). -/
namespace Go.Proofs.Ytflkbabhbnmajaa
open Go Go.RowKit
set_option linter.unusedSimpArgs false
set_option linter.unusedVariables false

set_option maxRecDepth 100000 in
theorem ClU_ok (A : Option Addr) (c : Nat) (l : List UInt8) (w0 : World) (hl : l.length * 1 ≤ 140737488355328) (hX : E.Rd w0 (E.Old w0) A (E.u8s l)) :
    Calls Try.prog 96 #[.slice A l.length c] w0 (E.Post w0 (E.Old w0) fun v Hn => ∃ A2 c2, v = .slice A2 l.length c2 ∧ Hn = [E.HP.row 5 1 A2 l.length c2 (E.u8s l)]) := by
  refine E.calls_of (vs := [.slice A l.length c]) (H := []) Try.func96 Try.ntmps96 rfl rfl (E.HA.start w0) ?_
  refine E.CW.seq ?_
  refine E.CW.region ?_
  refine E.OW.pure rfl rfl rfl (E.PV.assign rfl rfl) ?_
  refine E.OW.nil ?_
  refine E.then_n ?_
  refine E.CW.seq ?_
  refine E.CW.seq ?_
  refine E.CW.region ?_
  refine E.OW.pure rfl rfl rfl (E.PV.move rfl rfl) ?_
  refine E.OW.pure rfl rfl rfl (E.PV.slnil Try.underlying22 rfl rfl rfl) ?_
  refine E.OW.nil ?_
  refine E.then_n ?_
  refine E.CW.cond rfl (fun hc => ?_) (fun hc => ?_)
  · skip
    all_goals (
      refine E.CW.seq ?_
      refine E.CW.nilrow 5 1 ?_
      refine E.CW.region ?_
      refine E.OW.pure rfl rfl rfl (E.PV.assign rfl rfl) ?_
      refine E.OW.nil ?_
      refine E.then_n ?_
      refine E.CW.ret ?_
      refine E.then_ret ?_
      refine E.KR.one [0] Try.results96 rfl rfl ?_
      have hl0 : l = [] := by
        cases hA : A with
        | none =>
          cases l with
          | nil => rfl
          | cons x r => obtain ⟨ad, e, _⟩ := hX (by simp); rw [hA] at e; cases e
        | some ad => rw [hA] at hc; cases hc
      subst hl0
      exact ⟨none, 0, rfl, rfl⟩)
  · skip
    all_goals (
      refine E.CW.skip ?_
      refine E.then_n ?_
      refine E.CW.seq ?_
      refine E.CW.region ?_
      refine E.OW.buildSlice (Et := 5) (sz := 1) (cs := E.u8s []) (ps := []) rfl rfl rfl rfl rfl rfl (by unfold maxLen; omega) (fun w => bsl22_0_ w) (fun AL => ?_)
      refine E.OW.pure rfl rfl rfl (E.PV.move rfl rfl) ?_
      refine E.OW.append0 (i := 0) Try.underlying22 in5 rfl rfl (by decide) rfl rfl rfl rfl rfl rfl rfl (E.rdc hX) ?_ ?_ ?_ ?_ (fun A2 c2 => ?_); (focus ((first | rfl | (simp; done) | omega))); (focus ((first | exact E.ints_one | exact E.u8s_one | (simp [Value.oneCell']; done)))); (focus ((unfold maxLen; omega))); (focus ((first | omega | (simp only [List.length_append, List.length_cons, List.length_nil] at *; omega) | (unfold maxLen at *; omega))))
      refine E.OW.pure rfl rfl rfl (E.PV.assign rfl rfl) ?_
      refine E.OW.nil ?_
      refine E.then_n ?_
      refine E.CW.ret ?_
      refine E.KR.one [0] Try.results96 rfl rfl ?_
      exact ⟨_, _, rfl, rfl⟩)

set_option maxRecDepth 100000 in
theorem ClI_ok (A : Option Addr) (c : Nat) (l : List Int) (w0 : World) (hl : l.length * 8 ≤ 140737488355328) (hX : E.Rd w0 (E.Old w0) A (E.ints l)) :
    Calls Try.prog 124 #[.slice A l.length c] w0 (E.Post w0 (E.Old w0) fun v Hn => ∃ A2 c2, v = .slice A2 l.length c2 ∧ Hn = [E.HP.row 3 1 A2 l.length c2 (E.ints l)]) := by
  refine E.calls_of (vs := [.slice A l.length c]) (H := []) Try.func124 Try.ntmps124 rfl rfl (E.HA.start w0) ?_
  refine E.CW.seq ?_
  refine E.CW.region ?_
  refine E.OW.pure rfl rfl rfl (E.PV.assign rfl rfl) ?_
  refine E.OW.nil ?_
  refine E.then_n ?_
  refine E.CW.seq ?_
  refine E.CW.seq ?_
  refine E.CW.region ?_
  refine E.OW.pure rfl rfl rfl (E.PV.move rfl rfl) ?_
  refine E.OW.pure rfl rfl rfl (E.PV.slnil Try.underlying31 rfl rfl rfl) ?_
  refine E.OW.nil ?_
  refine E.then_n ?_
  refine E.CW.cond rfl (fun hc => ?_) (fun hc => ?_)
  · skip
    all_goals (
      refine E.CW.seq ?_
      refine E.CW.nilrow 3 1 ?_
      refine E.CW.region ?_
      refine E.OW.pure rfl rfl rfl (E.PV.assign rfl rfl) ?_
      refine E.OW.nil ?_
      refine E.then_n ?_
      refine E.CW.ret ?_
      refine E.then_ret ?_
      refine E.KR.one [0] Try.results124 rfl rfl ?_
      have hl0 : l = [] := by
        cases hA : A with
        | none =>
          cases l with
          | nil => rfl
          | cons x r => obtain ⟨ad, e, _⟩ := hX (by simp); rw [hA] at e; cases e
        | some ad => rw [hA] at hc; cases hc
      subst hl0
      exact ⟨none, 0, rfl, rfl⟩)
  · skip
    all_goals (
      refine E.CW.skip ?_
      refine E.then_n ?_
      refine E.CW.seq ?_
      refine E.CW.region ?_
      refine E.OW.buildSlice (Et := 3) (sz := 1) (cs := E.ints []) (ps := []) rfl rfl rfl rfl rfl rfl (by unfold maxLen; omega) (fun w => bsl31_0_ w) (fun AL => ?_)
      refine E.OW.pure rfl rfl rfl (E.PV.move rfl rfl) ?_
      refine E.OW.append0 (i := 0) Try.underlying31 in3 rfl rfl (by decide) rfl rfl rfl rfl rfl rfl rfl (E.rdc hX) ?_ ?_ ?_ ?_ (fun A2 c2 => ?_); (focus ((first | rfl | (simp; done) | omega))); (focus ((first | exact E.ints_one | exact E.u8s_one | (simp [Value.oneCell']; done)))); (focus ((unfold maxLen; omega))); (focus ((first | omega | (simp only [List.length_append, List.length_cons, List.length_nil] at *; omega) | (unfold maxLen at *; omega))))
      refine E.OW.pure rfl rfl rfl (E.PV.assign rfl rfl) ?_
      refine E.OW.nil ?_
      refine E.then_n ?_
      refine E.CW.ret ?_
      refine E.KR.one [0] Try.results124 rfl rfl ?_
      exact ⟨_, _, rfl, rfl⟩)

set_option maxRecDepth 100000 in
theorem Cp_ok (m : E.Tm) (w0 : World) (hm : m.rd w0 (E.Old w0)) (hf : m.q.fit) :
    Calls Try.prog 97 #[m.v] w0 (E.Post w0 (E.Old w0) fun v Hn => ∃ m2 : E.Tm, v = m2.v ∧ Hn = [E.HP.tm m2] ∧ m2.q = m.q) := by
  obtain ⟨hX, hY, hZ⟩ := id hm
  have hs1 := hf.h
  have hs2 := hf.p
  have hs3 := hf.d
  have hsl := Cf.spots_len m.q
  refine E.calls_of (vs := [m.v]) (H := []) Try.func97 Try.ntmps97 rfl rfl (E.HA.start w0) ?_
  refine E.CW.seq ?_
  refine E.CW.region ?_
  refine E.OW.box rfl rfl rfl rfl rfl rfl (fun B1 => ?_)
  refine E.OW.alloc (in79.zr) rfl rfl rfl rfl rfl (fun B2 => ?_)
  refine E.OW.nil ?_
  refine E.then_n ?_
  refine E.CW.seq ?_
  refine E.CW.drawx mixed [] rfl ?_
  all_goals (refine E.AW.first 0 rfl (by kernel_rfl) (by kernel_rfl) (by kernel_rfl) rfl rfl rfl (E.PV.fieldAddr fa79_0 rfl rfl) ?_)
  all_goals (refine E.AW.first 3 rfl (by kernel_rfl) (by kernel_rfl) (by kernel_rfl) rfl rfl rfl (E.PV.fieldAddr fa79_1 rfl rfl) ?_)
  all_goals (refine E.AW.first 6 rfl (by kernel_rfl) (by kernel_rfl) (by kernel_rfl) rfl rfl rfl (E.PV.fieldAddr fa79_2 rfl rfl) ?_)
  all_goals (
    refine E.AW.three 1 4 7 (by kernel_rfl) rfl rfl rfl ?ga1 ?gb1 ?gc1
    case' ga1 =>
        all_goals (refine E.OW.pure rfl rfl rfl (E.PV.load (i := 1) na31 rfl rfl rfl rfl) ?_)
        all_goals (refine E.AW.nil [] rfl ?_)
        all_goals (
          refine E.AW.three 2 4 7 (by kernel_rfl) rfl rfl rfl ?ga2 ?gb2 ?gc2
          case' ga2 =>
              all_goals ((refine E.OW.call nm124 rfl rfl rfl rfl rfl rfl _ (fun w hw => ClI_ok _ _ _ w ?_ ?_) ?_; (focus (omega)); (focus (refine hw.rd ?_; assumption)); rintro _ _ ⟨AX0, cX0, rfl, rfl⟩))
              all_goals (refine E.AW.nil [] rfl ?_)
              all_goals (
                refine E.AW.two 4 7 (by kernel_rfl) rfl rfl ?ga3 ?gb3
                case' ga3 =>
                    all_goals (refine E.OW.pure rfl rfl rfl (E.PV.load (i := 2) na31 rfl rfl rfl rfl) ?_)
                    all_goals (refine E.AW.nil [] rfl ?_)
                    all_goals (
                      refine E.AW.two 5 7 (by kernel_rfl) rfl rfl ?ga4 ?gb4
                      case' ga4 =>
                          all_goals ((refine E.OW.call nm124 rfl rfl rfl rfl rfl rfl _ (fun w hw => ClI_ok _ _ _ w ?_ ?_) ?_; (focus (omega)); (focus (refine hw.rd ?_; assumption)); rintro _ _ ⟨AX1, cX1, rfl, rfl⟩))
                          all_goals (refine E.AW.nil [] rfl ?_)
                          all_goals (refine E.AW.one 7 (by kernel_rfl) rfl ?_)
                          all_goals (refine E.OW.pure rfl rfl rfl (E.PV.load (i := 3) na31 rfl rfl rfl rfl) ?_)
                          all_goals (refine E.AW.nil [] rfl ?_)
                          all_goals (refine E.AW.first 9 rfl (by kernel_rfl) (by kernel_rfl) (by kernel_rfl) rfl rfl rfl (E.PV.fieldAddr fa79_0 rfl rfl) ?_)
                          all_goals (refine E.AW.one 8 (by kernel_rfl) rfl ?_)
                          all_goals ((refine E.OW.call nm124 rfl rfl rfl rfl rfl rfl _ (fun w hw => ClI_ok _ _ _ w ?_ ?_) ?_; (focus (omega)); (focus (refine hw.rd ?_; assumption)); rintro _ _ ⟨AX2, cX2, rfl, rfl⟩))
                          all_goals (refine E.AW.nil [] rfl ?_)
                          all_goals (refine E.AW.one 10 (by kernel_rfl) rfl ?_)
                          all_goals (refine E.OW.store (i := 4) in31.size rfl rfl rfl rfl rfl rfl rfl rfl rfl ?_)
                          all_goals (refine E.AW.nil [] rfl ?_)
                          all_goals (refine E.AW.first 11 rfl (by kernel_rfl) (by kernel_rfl) (by kernel_rfl) rfl rfl rfl (E.PV.fieldAddr fa79_1 rfl rfl) ?_)
                          all_goals (refine E.AW.one 12 (by kernel_rfl) rfl ?_)
                          all_goals (refine E.OW.store (i := 0) in31.size rfl rfl rfl rfl rfl rfl rfl rfl rfl ?_)
                          all_goals (refine E.AW.nil [] rfl ?_)
                          all_goals (refine E.AW.first 13 rfl (by kernel_rfl) (by kernel_rfl) (by kernel_rfl) rfl rfl rfl (E.PV.fieldAddr fa79_2 rfl rfl) ?_)
                          all_goals (refine E.AW.one 14 (by kernel_rfl) rfl ?_)
                          all_goals (refine E.OW.store (i := 0) in31.size rfl rfl rfl rfl rfl rfl rfl rfl rfl ?_)
                          all_goals (refine E.AW.nil [] rfl ?_)
                          all_goals (refine E.AW.done (by kernel_rfl) ?_)
                      case' gb4 =>
                          all_goals (refine E.OW.pure rfl rfl rfl (E.PV.load (i := 2) na31 rfl rfl rfl rfl) ?_)
                          all_goals (refine E.AW.nil [] rfl ?_)
                          all_goals (refine E.AW.first 9 rfl (by kernel_rfl) (by kernel_rfl) (by kernel_rfl) rfl rfl rfl (E.PV.fieldAddr fa79_0 rfl rfl) ?_)
                          all_goals (refine E.AW.one 5 (by kernel_rfl) rfl ?_)
                          all_goals ((refine E.OW.call nm124 rfl rfl rfl rfl rfl rfl _ (fun w hw => ClI_ok _ _ _ w ?_ ?_) ?_; (focus (omega)); (focus (refine hw.rd ?_; assumption)); rintro _ _ ⟨AX3, cX3, rfl, rfl⟩))
                          all_goals (refine E.AW.nil [] rfl ?_)
                          all_goals (refine E.AW.one 8 (by kernel_rfl) rfl ?_)
                          all_goals ((refine E.OW.call nm124 rfl rfl rfl rfl rfl rfl _ (fun w hw => ClI_ok _ _ _ w ?_ ?_) ?_; (focus (omega)); (focus (refine hw.rd ?_; assumption)); rintro _ _ ⟨AX4, cX4, rfl, rfl⟩))
                          all_goals (refine E.AW.nil [] rfl ?_)
                          all_goals (refine E.AW.one 10 (by kernel_rfl) rfl ?_)
                          all_goals (refine E.OW.store (i := 4) in31.size rfl rfl rfl rfl rfl rfl rfl rfl rfl ?_)
                          all_goals (refine E.AW.nil [] rfl ?_)
                          all_goals (refine E.AW.first 11 rfl (by kernel_rfl) (by kernel_rfl) (by kernel_rfl) rfl rfl rfl (E.PV.fieldAddr fa79_1 rfl rfl) ?_)
                          all_goals (refine E.AW.one 12 (by kernel_rfl) rfl ?_)
                          all_goals (refine E.OW.store (i := 0) in31.size rfl rfl rfl rfl rfl rfl rfl rfl rfl ?_)
                          all_goals (refine E.AW.nil [] rfl ?_)
                          all_goals (refine E.AW.first 13 rfl (by kernel_rfl) (by kernel_rfl) (by kernel_rfl) rfl rfl rfl (E.PV.fieldAddr fa79_2 rfl rfl) ?_)
                          all_goals (refine E.AW.one 14 (by kernel_rfl) rfl ?_)
                          all_goals (refine E.OW.store (i := 0) in31.size rfl rfl rfl rfl rfl rfl rfl rfl rfl ?_)
                          all_goals (refine E.AW.nil [] rfl ?_)
                          all_goals (refine E.AW.done (by kernel_rfl) ?_))
                case' gb3 =>
                    all_goals (refine E.OW.pure rfl rfl rfl (E.PV.load (i := 2) na31 rfl rfl rfl rfl) ?_)
                    all_goals (refine E.AW.nil [] rfl ?_)
                    all_goals (refine E.AW.one 4 (by kernel_rfl) rfl ?_)
                    all_goals (refine E.OW.pure rfl rfl rfl (E.PV.load (i := 2) na31 rfl rfl rfl rfl) ?_)
                    all_goals (refine E.AW.nil [] rfl ?_)
                    all_goals (refine E.AW.first 9 rfl (by kernel_rfl) (by kernel_rfl) (by kernel_rfl) rfl rfl rfl (E.PV.fieldAddr fa79_0 rfl rfl) ?_)
                    all_goals (refine E.AW.one 5 (by kernel_rfl) rfl ?_)
                    all_goals ((refine E.OW.call nm124 rfl rfl rfl rfl rfl rfl _ (fun w hw => ClI_ok _ _ _ w ?_ ?_) ?_; (focus (omega)); (focus (refine hw.rd ?_; assumption)); rintro _ _ ⟨AX5, cX5, rfl, rfl⟩))
                    all_goals (refine E.AW.nil [] rfl ?_)
                    all_goals (refine E.AW.one 8 (by kernel_rfl) rfl ?_)
                    all_goals ((refine E.OW.call nm124 rfl rfl rfl rfl rfl rfl _ (fun w hw => ClI_ok _ _ _ w ?_ ?_) ?_; (focus (omega)); (focus (refine hw.rd ?_; assumption)); rintro _ _ ⟨AX6, cX6, rfl, rfl⟩))
                    all_goals (refine E.AW.nil [] rfl ?_)
                    all_goals (refine E.AW.one 10 (by kernel_rfl) rfl ?_)
                    all_goals (refine E.OW.store (i := 4) in31.size rfl rfl rfl rfl rfl rfl rfl rfl rfl ?_)
                    all_goals (refine E.AW.nil [] rfl ?_)
                    all_goals (refine E.AW.first 11 rfl (by kernel_rfl) (by kernel_rfl) (by kernel_rfl) rfl rfl rfl (E.PV.fieldAddr fa79_1 rfl rfl) ?_)
                    all_goals (refine E.AW.one 12 (by kernel_rfl) rfl ?_)
                    all_goals (refine E.OW.store (i := 0) in31.size rfl rfl rfl rfl rfl rfl rfl rfl rfl ?_)
                    all_goals (refine E.AW.nil [] rfl ?_)
                    all_goals (refine E.AW.first 13 rfl (by kernel_rfl) (by kernel_rfl) (by kernel_rfl) rfl rfl rfl (E.PV.fieldAddr fa79_2 rfl rfl) ?_)
                    all_goals (refine E.AW.one 14 (by kernel_rfl) rfl ?_)
                    all_goals (refine E.OW.store (i := 0) in31.size rfl rfl rfl rfl rfl rfl rfl rfl rfl ?_)
                    all_goals (refine E.AW.nil [] rfl ?_)
                    all_goals (refine E.AW.done (by kernel_rfl) ?_))
          case' gb2 =>
              all_goals (refine E.OW.pure rfl rfl rfl (E.PV.load (i := 1) na31 rfl rfl rfl rfl) ?_)
              all_goals (refine E.AW.nil [] rfl ?_)
              all_goals (
                refine E.AW.two 2 7 (by kernel_rfl) rfl rfl ?ga5 ?gb5
                case' ga5 =>
                    all_goals ((refine E.OW.call nm124 rfl rfl rfl rfl rfl rfl _ (fun w hw => ClI_ok _ _ _ w ?_ ?_) ?_; (focus (omega)); (focus (refine hw.rd ?_; assumption)); rintro _ _ ⟨AX7, cX7, rfl, rfl⟩))
                    all_goals (refine E.AW.nil [] rfl ?_)
                    all_goals (
                      refine E.AW.two 5 7 (by kernel_rfl) rfl rfl ?ga6 ?gb6
                      case' ga6 =>
                          all_goals ((refine E.OW.call nm124 rfl rfl rfl rfl rfl rfl _ (fun w hw => ClI_ok _ _ _ w ?_ ?_) ?_; (focus (omega)); (focus (refine hw.rd ?_; assumption)); rintro _ _ ⟨AX8, cX8, rfl, rfl⟩))
                          all_goals (refine E.AW.nil [] rfl ?_)
                          all_goals (refine E.AW.one 7 (by kernel_rfl) rfl ?_)
                          all_goals (refine E.OW.pure rfl rfl rfl (E.PV.load (i := 3) na31 rfl rfl rfl rfl) ?_)
                          all_goals (refine E.AW.nil [] rfl ?_)
                          all_goals (refine E.AW.first 9 rfl (by kernel_rfl) (by kernel_rfl) (by kernel_rfl) rfl rfl rfl (E.PV.fieldAddr fa79_0 rfl rfl) ?_)
                          all_goals (refine E.AW.one 8 (by kernel_rfl) rfl ?_)
                          all_goals ((refine E.OW.call nm124 rfl rfl rfl rfl rfl rfl _ (fun w hw => ClI_ok _ _ _ w ?_ ?_) ?_; (focus (omega)); (focus (refine hw.rd ?_; assumption)); rintro _ _ ⟨AX9, cX9, rfl, rfl⟩))
                          all_goals (refine E.AW.nil [] rfl ?_)
                          all_goals (refine E.AW.one 10 (by kernel_rfl) rfl ?_)
                          all_goals (refine E.OW.store (i := 4) in31.size rfl rfl rfl rfl rfl rfl rfl rfl rfl ?_)
                          all_goals (refine E.AW.nil [] rfl ?_)
                          all_goals (refine E.AW.first 11 rfl (by kernel_rfl) (by kernel_rfl) (by kernel_rfl) rfl rfl rfl (E.PV.fieldAddr fa79_1 rfl rfl) ?_)
                          all_goals (refine E.AW.one 12 (by kernel_rfl) rfl ?_)
                          all_goals (refine E.OW.store (i := 0) in31.size rfl rfl rfl rfl rfl rfl rfl rfl rfl ?_)
                          all_goals (refine E.AW.nil [] rfl ?_)
                          all_goals (refine E.AW.first 13 rfl (by kernel_rfl) (by kernel_rfl) (by kernel_rfl) rfl rfl rfl (E.PV.fieldAddr fa79_2 rfl rfl) ?_)
                          all_goals (refine E.AW.one 14 (by kernel_rfl) rfl ?_)
                          all_goals (refine E.OW.store (i := 0) in31.size rfl rfl rfl rfl rfl rfl rfl rfl rfl ?_)
                          all_goals (refine E.AW.nil [] rfl ?_)
                          all_goals (refine E.AW.done (by kernel_rfl) ?_)
                      case' gb6 =>
                          all_goals (refine E.OW.pure rfl rfl rfl (E.PV.load (i := 2) na31 rfl rfl rfl rfl) ?_)
                          all_goals (refine E.AW.nil [] rfl ?_)
                          all_goals (refine E.AW.first 9 rfl (by kernel_rfl) (by kernel_rfl) (by kernel_rfl) rfl rfl rfl (E.PV.fieldAddr fa79_0 rfl rfl) ?_)
                          all_goals (refine E.AW.one 5 (by kernel_rfl) rfl ?_)
                          all_goals ((refine E.OW.call nm124 rfl rfl rfl rfl rfl rfl _ (fun w hw => ClI_ok _ _ _ w ?_ ?_) ?_; (focus (omega)); (focus (refine hw.rd ?_; assumption)); rintro _ _ ⟨AX10, cX10, rfl, rfl⟩))
                          all_goals (refine E.AW.nil [] rfl ?_)
                          all_goals (refine E.AW.one 8 (by kernel_rfl) rfl ?_)
                          all_goals ((refine E.OW.call nm124 rfl rfl rfl rfl rfl rfl _ (fun w hw => ClI_ok _ _ _ w ?_ ?_) ?_; (focus (omega)); (focus (refine hw.rd ?_; assumption)); rintro _ _ ⟨AX11, cX11, rfl, rfl⟩))
                          all_goals (refine E.AW.nil [] rfl ?_)
                          all_goals (refine E.AW.one 10 (by kernel_rfl) rfl ?_)
                          all_goals (refine E.OW.store (i := 4) in31.size rfl rfl rfl rfl rfl rfl rfl rfl rfl ?_)
                          all_goals (refine E.AW.nil [] rfl ?_)
                          all_goals (refine E.AW.first 11 rfl (by kernel_rfl) (by kernel_rfl) (by kernel_rfl) rfl rfl rfl (E.PV.fieldAddr fa79_1 rfl rfl) ?_)
                          all_goals (refine E.AW.one 12 (by kernel_rfl) rfl ?_)
                          all_goals (refine E.OW.store (i := 0) in31.size rfl rfl rfl rfl rfl rfl rfl rfl rfl ?_)
                          all_goals (refine E.AW.nil [] rfl ?_)
                          all_goals (refine E.AW.first 13 rfl (by kernel_rfl) (by kernel_rfl) (by kernel_rfl) rfl rfl rfl (E.PV.fieldAddr fa79_2 rfl rfl) ?_)
                          all_goals (refine E.AW.one 14 (by kernel_rfl) rfl ?_)
                          all_goals (refine E.OW.store (i := 0) in31.size rfl rfl rfl rfl rfl rfl rfl rfl rfl ?_)
                          all_goals (refine E.AW.nil [] rfl ?_)
                          all_goals (refine E.AW.done (by kernel_rfl) ?_))
                case' gb5 =>
                    all_goals (refine E.OW.pure rfl rfl rfl (E.PV.load (i := 1) na31 rfl rfl rfl rfl) ?_)
                    all_goals (refine E.AW.nil [] rfl ?_)
                    all_goals (refine E.AW.one 2 (by kernel_rfl) rfl ?_)
                    all_goals ((refine E.OW.call nm124 rfl rfl rfl rfl rfl rfl _ (fun w hw => ClI_ok _ _ _ w ?_ ?_) ?_; (focus (omega)); (focus (refine hw.rd ?_; assumption)); rintro _ _ ⟨AX12, cX12, rfl, rfl⟩))
                    all_goals (refine E.AW.nil [] rfl ?_)
                    all_goals (refine E.AW.first 9 rfl (by kernel_rfl) (by kernel_rfl) (by kernel_rfl) rfl rfl rfl (E.PV.fieldAddr fa79_0 rfl rfl) ?_)
                    all_goals (refine E.AW.one 5 (by kernel_rfl) rfl ?_)
                    all_goals ((refine E.OW.call nm124 rfl rfl rfl rfl rfl rfl _ (fun w hw => ClI_ok _ _ _ w ?_ ?_) ?_; (focus (omega)); (focus (refine hw.rd ?_; assumption)); rintro _ _ ⟨AX13, cX13, rfl, rfl⟩))
                    all_goals (refine E.AW.nil [] rfl ?_)
                    all_goals (refine E.AW.one 8 (by kernel_rfl) rfl ?_)
                    all_goals ((refine E.OW.call nm124 rfl rfl rfl rfl rfl rfl _ (fun w hw => ClI_ok _ _ _ w ?_ ?_) ?_; (focus (omega)); (focus (refine hw.rd ?_; assumption)); rintro _ _ ⟨AX14, cX14, rfl, rfl⟩))
                    all_goals (refine E.AW.nil [] rfl ?_)
                    all_goals (refine E.AW.one 10 (by kernel_rfl) rfl ?_)
                    all_goals (refine E.OW.store (i := 4) in31.size rfl rfl rfl rfl rfl rfl rfl rfl rfl ?_)
                    all_goals (refine E.AW.nil [] rfl ?_)
                    all_goals (refine E.AW.first 11 rfl (by kernel_rfl) (by kernel_rfl) (by kernel_rfl) rfl rfl rfl (E.PV.fieldAddr fa79_1 rfl rfl) ?_)
                    all_goals (refine E.AW.one 12 (by kernel_rfl) rfl ?_)
                    all_goals (refine E.OW.store (i := 0) in31.size rfl rfl rfl rfl rfl rfl rfl rfl rfl ?_)
                    all_goals (refine E.AW.nil [] rfl ?_)
                    all_goals (refine E.AW.first 13 rfl (by kernel_rfl) (by kernel_rfl) (by kernel_rfl) rfl rfl rfl (E.PV.fieldAddr fa79_2 rfl rfl) ?_)
                    all_goals (refine E.AW.one 14 (by kernel_rfl) rfl ?_)
                    all_goals (refine E.OW.store (i := 0) in31.size rfl rfl rfl rfl rfl rfl rfl rfl rfl ?_)
                    all_goals (refine E.AW.nil [] rfl ?_)
                    all_goals (refine E.AW.done (by kernel_rfl) ?_))
          case' gc2 =>
              all_goals (refine E.OW.pure rfl rfl rfl (E.PV.load (i := 1) na31 rfl rfl rfl rfl) ?_)
              all_goals (refine E.AW.nil [] rfl ?_)
              all_goals (
                refine E.AW.two 2 4 (by kernel_rfl) rfl rfl ?ga7 ?gb7
                case' ga7 =>
                    all_goals ((refine E.OW.call nm124 rfl rfl rfl rfl rfl rfl _ (fun w hw => ClI_ok _ _ _ w ?_ ?_) ?_; (focus (omega)); (focus (refine hw.rd ?_; assumption)); rintro _ _ ⟨AX15, cX15, rfl, rfl⟩))
                    all_goals (refine E.AW.nil [] rfl ?_)
                    all_goals (refine E.AW.one 4 (by kernel_rfl) rfl ?_)
                    all_goals (refine E.OW.pure rfl rfl rfl (E.PV.load (i := 2) na31 rfl rfl rfl rfl) ?_)
                    all_goals (refine E.AW.nil [] rfl ?_)
                    all_goals (refine E.AW.first 9 rfl (by kernel_rfl) (by kernel_rfl) (by kernel_rfl) rfl rfl rfl (E.PV.fieldAddr fa79_0 rfl rfl) ?_)
                    all_goals (refine E.AW.one 5 (by kernel_rfl) rfl ?_)
                    all_goals ((refine E.OW.call nm124 rfl rfl rfl rfl rfl rfl _ (fun w hw => ClI_ok _ _ _ w ?_ ?_) ?_; (focus (omega)); (focus (refine hw.rd ?_; assumption)); rintro _ _ ⟨AX16, cX16, rfl, rfl⟩))
                    all_goals (refine E.AW.nil [] rfl ?_)
                    all_goals (refine E.AW.one 8 (by kernel_rfl) rfl ?_)
                    all_goals ((refine E.OW.call nm124 rfl rfl rfl rfl rfl rfl _ (fun w hw => ClI_ok _ _ _ w ?_ ?_) ?_; (focus (omega)); (focus (refine hw.rd ?_; assumption)); rintro _ _ ⟨AX17, cX17, rfl, rfl⟩))
                    all_goals (refine E.AW.nil [] rfl ?_)
                    all_goals (refine E.AW.one 10 (by kernel_rfl) rfl ?_)
                    all_goals (refine E.OW.store (i := 4) in31.size rfl rfl rfl rfl rfl rfl rfl rfl rfl ?_)
                    all_goals (refine E.AW.nil [] rfl ?_)
                    all_goals (refine E.AW.first 11 rfl (by kernel_rfl) (by kernel_rfl) (by kernel_rfl) rfl rfl rfl (E.PV.fieldAddr fa79_1 rfl rfl) ?_)
                    all_goals (refine E.AW.one 12 (by kernel_rfl) rfl ?_)
                    all_goals (refine E.OW.store (i := 0) in31.size rfl rfl rfl rfl rfl rfl rfl rfl rfl ?_)
                    all_goals (refine E.AW.nil [] rfl ?_)
                    all_goals (refine E.AW.first 13 rfl (by kernel_rfl) (by kernel_rfl) (by kernel_rfl) rfl rfl rfl (E.PV.fieldAddr fa79_2 rfl rfl) ?_)
                    all_goals (refine E.AW.one 14 (by kernel_rfl) rfl ?_)
                    all_goals (refine E.OW.store (i := 0) in31.size rfl rfl rfl rfl rfl rfl rfl rfl rfl ?_)
                    all_goals (refine E.AW.nil [] rfl ?_)
                    all_goals (refine E.AW.done (by kernel_rfl) ?_)
                case' gb7 =>
                    all_goals (refine E.OW.pure rfl rfl rfl (E.PV.load (i := 1) na31 rfl rfl rfl rfl) ?_)
                    all_goals (refine E.AW.nil [] rfl ?_)
                    all_goals (refine E.AW.one 2 (by kernel_rfl) rfl ?_)
                    all_goals ((refine E.OW.call nm124 rfl rfl rfl rfl rfl rfl _ (fun w hw => ClI_ok _ _ _ w ?_ ?_) ?_; (focus (omega)); (focus (refine hw.rd ?_; assumption)); rintro _ _ ⟨AX18, cX18, rfl, rfl⟩))
                    all_goals (refine E.AW.nil [] rfl ?_)
                    all_goals (refine E.AW.first 9 rfl (by kernel_rfl) (by kernel_rfl) (by kernel_rfl) rfl rfl rfl (E.PV.fieldAddr fa79_0 rfl rfl) ?_)
                    all_goals (refine E.AW.one 5 (by kernel_rfl) rfl ?_)
                    all_goals ((refine E.OW.call nm124 rfl rfl rfl rfl rfl rfl _ (fun w hw => ClI_ok _ _ _ w ?_ ?_) ?_; (focus (omega)); (focus (refine hw.rd ?_; assumption)); rintro _ _ ⟨AX19, cX19, rfl, rfl⟩))
                    all_goals (refine E.AW.nil [] rfl ?_)
                    all_goals (refine E.AW.one 8 (by kernel_rfl) rfl ?_)
                    all_goals ((refine E.OW.call nm124 rfl rfl rfl rfl rfl rfl _ (fun w hw => ClI_ok _ _ _ w ?_ ?_) ?_; (focus (omega)); (focus (refine hw.rd ?_; assumption)); rintro _ _ ⟨AX20, cX20, rfl, rfl⟩))
                    all_goals (refine E.AW.nil [] rfl ?_)
                    all_goals (refine E.AW.one 10 (by kernel_rfl) rfl ?_)
                    all_goals (refine E.OW.store (i := 4) in31.size rfl rfl rfl rfl rfl rfl rfl rfl rfl ?_)
                    all_goals (refine E.AW.nil [] rfl ?_)
                    all_goals (refine E.AW.first 11 rfl (by kernel_rfl) (by kernel_rfl) (by kernel_rfl) rfl rfl rfl (E.PV.fieldAddr fa79_1 rfl rfl) ?_)
                    all_goals (refine E.AW.one 12 (by kernel_rfl) rfl ?_)
                    all_goals (refine E.OW.store (i := 0) in31.size rfl rfl rfl rfl rfl rfl rfl rfl rfl ?_)
                    all_goals (refine E.AW.nil [] rfl ?_)
                    all_goals (refine E.AW.first 13 rfl (by kernel_rfl) (by kernel_rfl) (by kernel_rfl) rfl rfl rfl (E.PV.fieldAddr fa79_2 rfl rfl) ?_)
                    all_goals (refine E.AW.one 14 (by kernel_rfl) rfl ?_)
                    all_goals (refine E.OW.store (i := 0) in31.size rfl rfl rfl rfl rfl rfl rfl rfl rfl ?_)
                    all_goals (refine E.AW.nil [] rfl ?_)
                    all_goals (refine E.AW.done (by kernel_rfl) ?_)))
    case' gb1 =>
        all_goals (refine E.OW.pure rfl rfl rfl (E.PV.load (i := 1) na31 rfl rfl rfl rfl) ?_)
        all_goals (refine E.AW.nil [] rfl ?_)
        all_goals (
          refine E.AW.two 1 7 (by kernel_rfl) rfl rfl ?ga8 ?gb8
          case' ga8 =>
              all_goals (refine E.OW.pure rfl rfl rfl (E.PV.load (i := 1) na31 rfl rfl rfl rfl) ?_)
              all_goals (refine E.AW.nil [] rfl ?_)
              all_goals (
                refine E.AW.two 2 7 (by kernel_rfl) rfl rfl ?ga9 ?gb9
                case' ga9 =>
                    all_goals ((refine E.OW.call nm124 rfl rfl rfl rfl rfl rfl _ (fun w hw => ClI_ok _ _ _ w ?_ ?_) ?_; (focus (omega)); (focus (refine hw.rd ?_; assumption)); rintro _ _ ⟨AX21, cX21, rfl, rfl⟩))
                    all_goals (refine E.AW.nil [] rfl ?_)
                    all_goals (
                      refine E.AW.two 5 7 (by kernel_rfl) rfl rfl ?ga10 ?gb10
                      case' ga10 =>
                          all_goals ((refine E.OW.call nm124 rfl rfl rfl rfl rfl rfl _ (fun w hw => ClI_ok _ _ _ w ?_ ?_) ?_; (focus (omega)); (focus (refine hw.rd ?_; assumption)); rintro _ _ ⟨AX22, cX22, rfl, rfl⟩))
                          all_goals (refine E.AW.nil [] rfl ?_)
                          all_goals (refine E.AW.one 7 (by kernel_rfl) rfl ?_)
                          all_goals (refine E.OW.pure rfl rfl rfl (E.PV.load (i := 3) na31 rfl rfl rfl rfl) ?_)
                          all_goals (refine E.AW.nil [] rfl ?_)
                          all_goals (refine E.AW.first 9 rfl (by kernel_rfl) (by kernel_rfl) (by kernel_rfl) rfl rfl rfl (E.PV.fieldAddr fa79_0 rfl rfl) ?_)
                          all_goals (refine E.AW.one 8 (by kernel_rfl) rfl ?_)
                          all_goals ((refine E.OW.call nm124 rfl rfl rfl rfl rfl rfl _ (fun w hw => ClI_ok _ _ _ w ?_ ?_) ?_; (focus (omega)); (focus (refine hw.rd ?_; assumption)); rintro _ _ ⟨AX23, cX23, rfl, rfl⟩))
                          all_goals (refine E.AW.nil [] rfl ?_)
                          all_goals (refine E.AW.one 10 (by kernel_rfl) rfl ?_)
                          all_goals (refine E.OW.store (i := 4) in31.size rfl rfl rfl rfl rfl rfl rfl rfl rfl ?_)
                          all_goals (refine E.AW.nil [] rfl ?_)
                          all_goals (refine E.AW.first 11 rfl (by kernel_rfl) (by kernel_rfl) (by kernel_rfl) rfl rfl rfl (E.PV.fieldAddr fa79_1 rfl rfl) ?_)
                          all_goals (refine E.AW.one 12 (by kernel_rfl) rfl ?_)
                          all_goals (refine E.OW.store (i := 0) in31.size rfl rfl rfl rfl rfl rfl rfl rfl rfl ?_)
                          all_goals (refine E.AW.nil [] rfl ?_)
                          all_goals (refine E.AW.first 13 rfl (by kernel_rfl) (by kernel_rfl) (by kernel_rfl) rfl rfl rfl (E.PV.fieldAddr fa79_2 rfl rfl) ?_)
                          all_goals (refine E.AW.one 14 (by kernel_rfl) rfl ?_)
                          all_goals (refine E.OW.store (i := 0) in31.size rfl rfl rfl rfl rfl rfl rfl rfl rfl ?_)
                          all_goals (refine E.AW.nil [] rfl ?_)
                          all_goals (refine E.AW.done (by kernel_rfl) ?_)
                      case' gb10 =>
                          all_goals (refine E.OW.pure rfl rfl rfl (E.PV.load (i := 2) na31 rfl rfl rfl rfl) ?_)
                          all_goals (refine E.AW.nil [] rfl ?_)
                          all_goals (refine E.AW.first 9 rfl (by kernel_rfl) (by kernel_rfl) (by kernel_rfl) rfl rfl rfl (E.PV.fieldAddr fa79_0 rfl rfl) ?_)
                          all_goals (refine E.AW.one 5 (by kernel_rfl) rfl ?_)
                          all_goals ((refine E.OW.call nm124 rfl rfl rfl rfl rfl rfl _ (fun w hw => ClI_ok _ _ _ w ?_ ?_) ?_; (focus (omega)); (focus (refine hw.rd ?_; assumption)); rintro _ _ ⟨AX24, cX24, rfl, rfl⟩))
                          all_goals (refine E.AW.nil [] rfl ?_)
                          all_goals (refine E.AW.one 8 (by kernel_rfl) rfl ?_)
                          all_goals ((refine E.OW.call nm124 rfl rfl rfl rfl rfl rfl _ (fun w hw => ClI_ok _ _ _ w ?_ ?_) ?_; (focus (omega)); (focus (refine hw.rd ?_; assumption)); rintro _ _ ⟨AX25, cX25, rfl, rfl⟩))
                          all_goals (refine E.AW.nil [] rfl ?_)
                          all_goals (refine E.AW.one 10 (by kernel_rfl) rfl ?_)
                          all_goals (refine E.OW.store (i := 4) in31.size rfl rfl rfl rfl rfl rfl rfl rfl rfl ?_)
                          all_goals (refine E.AW.nil [] rfl ?_)
                          all_goals (refine E.AW.first 11 rfl (by kernel_rfl) (by kernel_rfl) (by kernel_rfl) rfl rfl rfl (E.PV.fieldAddr fa79_1 rfl rfl) ?_)
                          all_goals (refine E.AW.one 12 (by kernel_rfl) rfl ?_)
                          all_goals (refine E.OW.store (i := 0) in31.size rfl rfl rfl rfl rfl rfl rfl rfl rfl ?_)
                          all_goals (refine E.AW.nil [] rfl ?_)
                          all_goals (refine E.AW.first 13 rfl (by kernel_rfl) (by kernel_rfl) (by kernel_rfl) rfl rfl rfl (E.PV.fieldAddr fa79_2 rfl rfl) ?_)
                          all_goals (refine E.AW.one 14 (by kernel_rfl) rfl ?_)
                          all_goals (refine E.OW.store (i := 0) in31.size rfl rfl rfl rfl rfl rfl rfl rfl rfl ?_)
                          all_goals (refine E.AW.nil [] rfl ?_)
                          all_goals (refine E.AW.done (by kernel_rfl) ?_))
                case' gb9 =>
                    all_goals (refine E.OW.pure rfl rfl rfl (E.PV.load (i := 1) na31 rfl rfl rfl rfl) ?_)
                    all_goals (refine E.AW.nil [] rfl ?_)
                    all_goals (refine E.AW.one 2 (by kernel_rfl) rfl ?_)
                    all_goals ((refine E.OW.call nm124 rfl rfl rfl rfl rfl rfl _ (fun w hw => ClI_ok _ _ _ w ?_ ?_) ?_; (focus (omega)); (focus (refine hw.rd ?_; assumption)); rintro _ _ ⟨AX26, cX26, rfl, rfl⟩))
                    all_goals (refine E.AW.nil [] rfl ?_)
                    all_goals (refine E.AW.first 9 rfl (by kernel_rfl) (by kernel_rfl) (by kernel_rfl) rfl rfl rfl (E.PV.fieldAddr fa79_0 rfl rfl) ?_)
                    all_goals (refine E.AW.one 5 (by kernel_rfl) rfl ?_)
                    all_goals ((refine E.OW.call nm124 rfl rfl rfl rfl rfl rfl _ (fun w hw => ClI_ok _ _ _ w ?_ ?_) ?_; (focus (omega)); (focus (refine hw.rd ?_; assumption)); rintro _ _ ⟨AX27, cX27, rfl, rfl⟩))
                    all_goals (refine E.AW.nil [] rfl ?_)
                    all_goals (refine E.AW.one 8 (by kernel_rfl) rfl ?_)
                    all_goals ((refine E.OW.call nm124 rfl rfl rfl rfl rfl rfl _ (fun w hw => ClI_ok _ _ _ w ?_ ?_) ?_; (focus (omega)); (focus (refine hw.rd ?_; assumption)); rintro _ _ ⟨AX28, cX28, rfl, rfl⟩))
                    all_goals (refine E.AW.nil [] rfl ?_)
                    all_goals (refine E.AW.one 10 (by kernel_rfl) rfl ?_)
                    all_goals (refine E.OW.store (i := 4) in31.size rfl rfl rfl rfl rfl rfl rfl rfl rfl ?_)
                    all_goals (refine E.AW.nil [] rfl ?_)
                    all_goals (refine E.AW.first 11 rfl (by kernel_rfl) (by kernel_rfl) (by kernel_rfl) rfl rfl rfl (E.PV.fieldAddr fa79_1 rfl rfl) ?_)
                    all_goals (refine E.AW.one 12 (by kernel_rfl) rfl ?_)
                    all_goals (refine E.OW.store (i := 0) in31.size rfl rfl rfl rfl rfl rfl rfl rfl rfl ?_)
                    all_goals (refine E.AW.nil [] rfl ?_)
                    all_goals (refine E.AW.first 13 rfl (by kernel_rfl) (by kernel_rfl) (by kernel_rfl) rfl rfl rfl (E.PV.fieldAddr fa79_2 rfl rfl) ?_)
                    all_goals (refine E.AW.one 14 (by kernel_rfl) rfl ?_)
                    all_goals (refine E.OW.store (i := 0) in31.size rfl rfl rfl rfl rfl rfl rfl rfl rfl ?_)
                    all_goals (refine E.AW.nil [] rfl ?_)
                    all_goals (refine E.AW.done (by kernel_rfl) ?_))
          case' gb8 =>
              all_goals (refine E.OW.pure rfl rfl rfl (E.PV.load (i := 1) na31 rfl rfl rfl rfl) ?_)
              all_goals (refine E.AW.nil [] rfl ?_)
              all_goals (refine E.AW.one 1 (by kernel_rfl) rfl ?_)
              all_goals (refine E.OW.pure rfl rfl rfl (E.PV.load (i := 1) na31 rfl rfl rfl rfl) ?_)
              all_goals (refine E.AW.nil [] rfl ?_)
              all_goals (refine E.AW.one 2 (by kernel_rfl) rfl ?_)
              all_goals ((refine E.OW.call nm124 rfl rfl rfl rfl rfl rfl _ (fun w hw => ClI_ok _ _ _ w ?_ ?_) ?_; (focus (omega)); (focus (refine hw.rd ?_; assumption)); rintro _ _ ⟨AX29, cX29, rfl, rfl⟩))
              all_goals (refine E.AW.nil [] rfl ?_)
              all_goals (refine E.AW.first 9 rfl (by kernel_rfl) (by kernel_rfl) (by kernel_rfl) rfl rfl rfl (E.PV.fieldAddr fa79_0 rfl rfl) ?_)
              all_goals (refine E.AW.one 5 (by kernel_rfl) rfl ?_)
              all_goals ((refine E.OW.call nm124 rfl rfl rfl rfl rfl rfl _ (fun w hw => ClI_ok _ _ _ w ?_ ?_) ?_; (focus (omega)); (focus (refine hw.rd ?_; assumption)); rintro _ _ ⟨AX30, cX30, rfl, rfl⟩))
              all_goals (refine E.AW.nil [] rfl ?_)
              all_goals (refine E.AW.one 8 (by kernel_rfl) rfl ?_)
              all_goals ((refine E.OW.call nm124 rfl rfl rfl rfl rfl rfl _ (fun w hw => ClI_ok _ _ _ w ?_ ?_) ?_; (focus (omega)); (focus (refine hw.rd ?_; assumption)); rintro _ _ ⟨AX31, cX31, rfl, rfl⟩))
              all_goals (refine E.AW.nil [] rfl ?_)
              all_goals (refine E.AW.one 10 (by kernel_rfl) rfl ?_)
              all_goals (refine E.OW.store (i := 4) in31.size rfl rfl rfl rfl rfl rfl rfl rfl rfl ?_)
              all_goals (refine E.AW.nil [] rfl ?_)
              all_goals (refine E.AW.first 11 rfl (by kernel_rfl) (by kernel_rfl) (by kernel_rfl) rfl rfl rfl (E.PV.fieldAddr fa79_1 rfl rfl) ?_)
              all_goals (refine E.AW.one 12 (by kernel_rfl) rfl ?_)
              all_goals (refine E.OW.store (i := 0) in31.size rfl rfl rfl rfl rfl rfl rfl rfl rfl ?_)
              all_goals (refine E.AW.nil [] rfl ?_)
              all_goals (refine E.AW.first 13 rfl (by kernel_rfl) (by kernel_rfl) (by kernel_rfl) rfl rfl rfl (E.PV.fieldAddr fa79_2 rfl rfl) ?_)
              all_goals (refine E.AW.one 14 (by kernel_rfl) rfl ?_)
              all_goals (refine E.OW.store (i := 0) in31.size rfl rfl rfl rfl rfl rfl rfl rfl rfl ?_)
              all_goals (refine E.AW.nil [] rfl ?_)
              all_goals (refine E.AW.done (by kernel_rfl) ?_))
    case' gc1 =>
        all_goals (refine E.OW.pure rfl rfl rfl (E.PV.load (i := 1) na31 rfl rfl rfl rfl) ?_)
        all_goals (refine E.AW.nil [] rfl ?_)
        all_goals (
          refine E.AW.two 1 4 (by kernel_rfl) rfl rfl ?ga11 ?gb11
          case' ga11 =>
              all_goals (refine E.OW.pure rfl rfl rfl (E.PV.load (i := 1) na31 rfl rfl rfl rfl) ?_)
              all_goals (refine E.AW.nil [] rfl ?_)
              all_goals (
                refine E.AW.two 2 4 (by kernel_rfl) rfl rfl ?ga12 ?gb12
                case' ga12 =>
                    all_goals ((refine E.OW.call nm124 rfl rfl rfl rfl rfl rfl _ (fun w hw => ClI_ok _ _ _ w ?_ ?_) ?_; (focus (omega)); (focus (refine hw.rd ?_; assumption)); rintro _ _ ⟨AX32, cX32, rfl, rfl⟩))
                    all_goals (refine E.AW.nil [] rfl ?_)
                    all_goals (refine E.AW.one 4 (by kernel_rfl) rfl ?_)
                    all_goals (refine E.OW.pure rfl rfl rfl (E.PV.load (i := 2) na31 rfl rfl rfl rfl) ?_)
                    all_goals (refine E.AW.nil [] rfl ?_)
                    all_goals (refine E.AW.first 9 rfl (by kernel_rfl) (by kernel_rfl) (by kernel_rfl) rfl rfl rfl (E.PV.fieldAddr fa79_0 rfl rfl) ?_)
                    all_goals (refine E.AW.one 5 (by kernel_rfl) rfl ?_)
                    all_goals ((refine E.OW.call nm124 rfl rfl rfl rfl rfl rfl _ (fun w hw => ClI_ok _ _ _ w ?_ ?_) ?_; (focus (omega)); (focus (refine hw.rd ?_; assumption)); rintro _ _ ⟨AX33, cX33, rfl, rfl⟩))
                    all_goals (refine E.AW.nil [] rfl ?_)
                    all_goals (refine E.AW.one 8 (by kernel_rfl) rfl ?_)
                    all_goals ((refine E.OW.call nm124 rfl rfl rfl rfl rfl rfl _ (fun w hw => ClI_ok _ _ _ w ?_ ?_) ?_; (focus (omega)); (focus (refine hw.rd ?_; assumption)); rintro _ _ ⟨AX34, cX34, rfl, rfl⟩))
                    all_goals (refine E.AW.nil [] rfl ?_)
                    all_goals (refine E.AW.one 10 (by kernel_rfl) rfl ?_)
                    all_goals (refine E.OW.store (i := 4) in31.size rfl rfl rfl rfl rfl rfl rfl rfl rfl ?_)
                    all_goals (refine E.AW.nil [] rfl ?_)
                    all_goals (refine E.AW.first 11 rfl (by kernel_rfl) (by kernel_rfl) (by kernel_rfl) rfl rfl rfl (E.PV.fieldAddr fa79_1 rfl rfl) ?_)
                    all_goals (refine E.AW.one 12 (by kernel_rfl) rfl ?_)
                    all_goals (refine E.OW.store (i := 0) in31.size rfl rfl rfl rfl rfl rfl rfl rfl rfl ?_)
                    all_goals (refine E.AW.nil [] rfl ?_)
                    all_goals (refine E.AW.first 13 rfl (by kernel_rfl) (by kernel_rfl) (by kernel_rfl) rfl rfl rfl (E.PV.fieldAddr fa79_2 rfl rfl) ?_)
                    all_goals (refine E.AW.one 14 (by kernel_rfl) rfl ?_)
                    all_goals (refine E.OW.store (i := 0) in31.size rfl rfl rfl rfl rfl rfl rfl rfl rfl ?_)
                    all_goals (refine E.AW.nil [] rfl ?_)
                    all_goals (refine E.AW.done (by kernel_rfl) ?_)
                case' gb12 =>
                    all_goals (refine E.OW.pure rfl rfl rfl (E.PV.load (i := 1) na31 rfl rfl rfl rfl) ?_)
                    all_goals (refine E.AW.nil [] rfl ?_)
                    all_goals (refine E.AW.one 2 (by kernel_rfl) rfl ?_)
                    all_goals ((refine E.OW.call nm124 rfl rfl rfl rfl rfl rfl _ (fun w hw => ClI_ok _ _ _ w ?_ ?_) ?_; (focus (omega)); (focus (refine hw.rd ?_; assumption)); rintro _ _ ⟨AX35, cX35, rfl, rfl⟩))
                    all_goals (refine E.AW.nil [] rfl ?_)
                    all_goals (refine E.AW.first 9 rfl (by kernel_rfl) (by kernel_rfl) (by kernel_rfl) rfl rfl rfl (E.PV.fieldAddr fa79_0 rfl rfl) ?_)
                    all_goals (refine E.AW.one 5 (by kernel_rfl) rfl ?_)
                    all_goals ((refine E.OW.call nm124 rfl rfl rfl rfl rfl rfl _ (fun w hw => ClI_ok _ _ _ w ?_ ?_) ?_; (focus (omega)); (focus (refine hw.rd ?_; assumption)); rintro _ _ ⟨AX36, cX36, rfl, rfl⟩))
                    all_goals (refine E.AW.nil [] rfl ?_)
                    all_goals (refine E.AW.one 8 (by kernel_rfl) rfl ?_)
                    all_goals ((refine E.OW.call nm124 rfl rfl rfl rfl rfl rfl _ (fun w hw => ClI_ok _ _ _ w ?_ ?_) ?_; (focus (omega)); (focus (refine hw.rd ?_; assumption)); rintro _ _ ⟨AX37, cX37, rfl, rfl⟩))
                    all_goals (refine E.AW.nil [] rfl ?_)
                    all_goals (refine E.AW.one 10 (by kernel_rfl) rfl ?_)
                    all_goals (refine E.OW.store (i := 4) in31.size rfl rfl rfl rfl rfl rfl rfl rfl rfl ?_)
                    all_goals (refine E.AW.nil [] rfl ?_)
                    all_goals (refine E.AW.first 11 rfl (by kernel_rfl) (by kernel_rfl) (by kernel_rfl) rfl rfl rfl (E.PV.fieldAddr fa79_1 rfl rfl) ?_)
                    all_goals (refine E.AW.one 12 (by kernel_rfl) rfl ?_)
                    all_goals (refine E.OW.store (i := 0) in31.size rfl rfl rfl rfl rfl rfl rfl rfl rfl ?_)
                    all_goals (refine E.AW.nil [] rfl ?_)
                    all_goals (refine E.AW.first 13 rfl (by kernel_rfl) (by kernel_rfl) (by kernel_rfl) rfl rfl rfl (E.PV.fieldAddr fa79_2 rfl rfl) ?_)
                    all_goals (refine E.AW.one 14 (by kernel_rfl) rfl ?_)
                    all_goals (refine E.OW.store (i := 0) in31.size rfl rfl rfl rfl rfl rfl rfl rfl rfl ?_)
                    all_goals (refine E.AW.nil [] rfl ?_)
                    all_goals (refine E.AW.done (by kernel_rfl) ?_))
          case' gb11 =>
              all_goals (refine E.OW.pure rfl rfl rfl (E.PV.load (i := 1) na31 rfl rfl rfl rfl) ?_)
              all_goals (refine E.AW.nil [] rfl ?_)
              all_goals (refine E.AW.one 1 (by kernel_rfl) rfl ?_)
              all_goals (refine E.OW.pure rfl rfl rfl (E.PV.load (i := 1) na31 rfl rfl rfl rfl) ?_)
              all_goals (refine E.AW.nil [] rfl ?_)
              all_goals (refine E.AW.one 2 (by kernel_rfl) rfl ?_)
              all_goals ((refine E.OW.call nm124 rfl rfl rfl rfl rfl rfl _ (fun w hw => ClI_ok _ _ _ w ?_ ?_) ?_; (focus (omega)); (focus (refine hw.rd ?_; assumption)); rintro _ _ ⟨AX38, cX38, rfl, rfl⟩))
              all_goals (refine E.AW.nil [] rfl ?_)
              all_goals (refine E.AW.first 9 rfl (by kernel_rfl) (by kernel_rfl) (by kernel_rfl) rfl rfl rfl (E.PV.fieldAddr fa79_0 rfl rfl) ?_)
              all_goals (refine E.AW.one 5 (by kernel_rfl) rfl ?_)
              all_goals ((refine E.OW.call nm124 rfl rfl rfl rfl rfl rfl _ (fun w hw => ClI_ok _ _ _ w ?_ ?_) ?_; (focus (omega)); (focus (refine hw.rd ?_; assumption)); rintro _ _ ⟨AX39, cX39, rfl, rfl⟩))
              all_goals (refine E.AW.nil [] rfl ?_)
              all_goals (refine E.AW.one 8 (by kernel_rfl) rfl ?_)
              all_goals ((refine E.OW.call nm124 rfl rfl rfl rfl rfl rfl _ (fun w hw => ClI_ok _ _ _ w ?_ ?_) ?_; (focus (omega)); (focus (refine hw.rd ?_; assumption)); rintro _ _ ⟨AX40, cX40, rfl, rfl⟩))
              all_goals (refine E.AW.nil [] rfl ?_)
              all_goals (refine E.AW.one 10 (by kernel_rfl) rfl ?_)
              all_goals (refine E.OW.store (i := 4) in31.size rfl rfl rfl rfl rfl rfl rfl rfl rfl ?_)
              all_goals (refine E.AW.nil [] rfl ?_)
              all_goals (refine E.AW.first 11 rfl (by kernel_rfl) (by kernel_rfl) (by kernel_rfl) rfl rfl rfl (E.PV.fieldAddr fa79_1 rfl rfl) ?_)
              all_goals (refine E.AW.one 12 (by kernel_rfl) rfl ?_)
              all_goals (refine E.OW.store (i := 0) in31.size rfl rfl rfl rfl rfl rfl rfl rfl rfl ?_)
              all_goals (refine E.AW.nil [] rfl ?_)
              all_goals (refine E.AW.first 13 rfl (by kernel_rfl) (by kernel_rfl) (by kernel_rfl) rfl rfl rfl (E.PV.fieldAddr fa79_2 rfl rfl) ?_)
              all_goals (refine E.AW.one 14 (by kernel_rfl) rfl ?_)
              all_goals (refine E.OW.store (i := 0) in31.size rfl rfl rfl rfl rfl rfl rfl rfl rfl ?_)
              all_goals (refine E.AW.nil [] rfl ?_)
              all_goals (refine E.AW.done (by kernel_rfl) ?_)))
  all_goals (
    skip
    refine E.then_n ?_
    refine E.CW.seq ?_
    refine E.CW.gather [3, 2, 1, 0, 0] 3 rfl rfl ?_
    refine E.CW.region ?_
    refine E.OW.pure rfl rfl rfl (E.PV.loads (i := 1) is79 rfl rfl rfl rfl) ?_
    refine E.OW.store (i := 2) in79.size rfl rfl rfl rfl rfl rfl rfl rfl rfl ?_
    refine E.OW.nil ?_
    refine E.then_n ?_
    refine E.CW.ret ?_
    refine E.KR.rv1 [1] Try.results97 (E.rv.cell is79 rfl (E.sli 0 rfl) rfl) rfl ?_
    exact ⟨⟨m.q, _, _, _, _, _, _⟩, rfl, rfl, rfl⟩)

set_option maxRecDepth 100000 in
theorem On_ok (g : E.Cfg) (t : Int) (w0 : World) (hg : g.rd w0 (E.Old w0)) (hgf : g.q.fit) :
    Calls Try.prog 54 #[g.v, .int .i64 t] w0 (E.Post w0 (E.Old w0) fun v Hn => ∃ g2 : E.Cfg, v = .tuple #[g2.v, .int .i64 (Cf.onlyR g.q t).2] ∧ Hn = [E.HP.cfg g2] ∧ g2.q = (Cf.onlyR g.q t).1) := by
  obtain ⟨hX1, hX2, hX3, hX4⟩ := id hg
  have hgl := E.Cfg.fit_len hgf
  have htn := E.Cfg.ts_len g
  refine E.calls_of (vs := [g.v, .int .i64 t]) (H := []) Try.func54 Try.ntmps54 rfl rfl (E.HA.start w0) ?_
  refine E.CW.seq ?_
  refine E.CW.region ?_
  refine E.OW.box rfl rfl rfl rfl rfl rfl (fun B1 => ?_)
  refine E.OW.alloc (in28.zr) rfl rfl rfl rfl rfl (fun B2 => ?_)
  refine E.OW.pure rfl rfl rfl (E.PV.assign rfl rfl) ?_
  refine E.OW.nil ?_
  refine E.then_n ?_
  refine E.CW.seq ?_
  refine E.CW.seq ?_
  refine E.CW.region ?_
  refine E.OW.pure rfl rfl rfl (E.PV.loads (i := 1) is28 rfl rfl rfl rfl) ?_
  (refine E.OW.call nm87 rfl rfl rfl rfl rfl rfl _ (fun w hw => Ck_ok _ w ?_ ?_) ?_; (focus (refine hw.rdC ?_; assumption)); (focus (assumption)); rintro _ _ ⟨rfl, rfl⟩)
  refine E.OW.pure rfl rfl rfl (E.PV.assign rfl rfl) ?_
  refine E.OW.nil ?_
  refine E.then_n ?_
  refine E.CW.seq ?_
  refine E.CW.region ?_
  refine E.OW.pure rfl rfl rfl (E.PV.move rfl rfl) ?_
  refine E.OW.pure rfl rfl rfl (E.PV.neq rfl rfl rfl) ?_
  refine E.OW.nil ?_
  refine E.then_n ?_
  refine E.CW.cond rfl (fun hc => ?_) (fun hc => ?_)
  · simp only [E.b0, E.b1, E.b2, E.b3, E.b4, E.b5, E.b6, E.b7, E.b8, E.b9, E.b10, E.b11, E.b12, E.b13, E.b14, E.b15, E.b16, E.b17, E.b18, E.b19, E.b20, reduceCtorEq] at hc
    all_goals (
      refine E.CW.seq ?_
      refine E.CW.cfgz ?_
      refine E.CW.region ?_
      refine E.OW.pure rfl rfl rfl (E.PV.build (ps := []) rfl rfl (fun w => bld28_ w)) ?_
      refine E.OW.pure rfl rfl rfl (E.PV.move rfl rfl) ?_
      refine E.OW.store (i := 1) in28.size rfl rfl rfl rfl rfl rfl rfl rfl rfl ?_
      refine E.OW.pure rfl rfl rfl (E.PV.assign rfl rfl) ?_
      refine E.OW.nil ?_
      refine E.then_n ?_
      refine E.CW.ret ?_
      refine E.then_ret ?_
      refine E.KR.rv2 [1] Try.results54 (E.rv.cell is28 rfl (E.sli 0 rfl) rfl) rfl rfl ?_
      have hcc : ¬ Cf.check g.q = 0 := by assumption
      rw [show Cf.onlyR g.q t = (Cf.zero, Cf.check g.q) from if_neg hcc]
      exact ⟨E.Cfg.z, rfl, rfl, rfl⟩)
  · simp only [E.b0, E.b1, E.b2, E.b3, E.b4, E.b5, E.b6, E.b7, E.b8, E.b9, E.b10, E.b11, E.b12, E.b13, E.b14, E.b15, E.b16, E.b17, E.b18, E.b19, E.b20, reduceCtorEq] at hc
    all_goals (
      refine E.CW.skip ?_
      refine E.then_n ?_
      refine E.CW.seq ?_
      refine E.CW.seq ?_
      have hcz : Cf.check g.q = 0 := by assumption
      refine E.CW.region ?_
      refine E.OW.pure rfl rfl rfl (E.PV.loads (i := 1) is28 rfl rfl rfl rfl) ?_
      refine E.OW.pure rfl rfl rfl (E.PV.move rfl rfl) ?_
      (refine E.OW.call nm95 rfl rfl rfl rfl rfl rfl _ (fun w hw => Pr_ok _ _ w ?_ ?_) ?_; (focus (refine hw.rdC ?_; assumption)); (focus (assumption)); rintro _ _ ⟨rfl, rfl⟩)
      refine E.OW.pure rfl rfl rfl (E.PV.not rfl rfl) ?_
      refine E.OW.nil ?_
      refine E.then_n ?_
      refine E.CW.cond rfl (fun hc => ?_) (fun hc => ?_)
      · simp only [E.b0, E.b1, E.b2, E.b3, E.b4, E.b5, E.b6, E.b7, E.b8, E.b9, E.b10, E.b11, E.b12, E.b13, E.b14, E.b15, E.b16, E.b17, E.b18, E.b19, E.b20, reduceCtorEq] at hc
        all_goals (
          refine E.CW.seq ?_
          refine E.CW.cfgz ?_
          refine E.CW.region ?_
          refine E.OW.pure rfl rfl rfl (E.PV.build (ps := []) rfl rfl (fun w => bld28_ w)) ?_
          refine E.OW.store (i := 1) in28.size rfl rfl rfl rfl rfl rfl rfl rfl rfl ?_
          refine E.OW.pure rfl rfl rfl (E.PV.assign rfl rfl) ?_
          refine E.OW.nil ?_
          refine E.then_n ?_
          refine E.CW.ret ?_
          refine E.then_ret ?_
          refine E.KR.rv2 [1] Try.results54 (E.rv.cell is28 rfl (E.sli 0 rfl) rfl) rfl rfl ?_
          have hpp : Cf.present g.q.ts t = false := by assumption
          rw [show Cf.onlyR g.q t = (Cf.zero, 2) from (if_pos hcz).trans (by rw [hpp]; rfl)]
          exact ⟨E.Cfg.z, rfl, rfl, rfl⟩)
      · simp only [E.b0, E.b1, E.b2, E.b3, E.b4, E.b5, E.b6, E.b7, E.b8, E.b9, E.b10, E.b11, E.b12, E.b13, E.b14, E.b15, E.b16, E.b17, E.b18, E.b19, E.b20, reduceCtorEq] at hc
        all_goals (
          refine E.CW.skip ?_
          refine E.then_n ?_
          refine E.CW.seq ?_
          have hpp : Cf.present g.q.ts t = true := by assumption
          have htb := Cf.present_b hpp
          have ht3 := Cf.teams_len (Cf.check_zero hcz).2.2.1
          rw [htn] at htb ht3
          refine E.CW.region ?_
          refine E.OW.pure rfl rfl rfl (E.PV.move rfl rfl) ?_
          refine E.OW.pure rfl rfl rfl (E.PV.conv_in Try.underlying3 Try.underlying5 rfl rfl ?_) ?_; (focus (first | exact E.wrap_u8 _ | (simp only [IntKind.wrap_i64, IntKind.wrap_u64, IntKind.wrap_u8]; omega)))
          refine E.OW.pure rfl rfl rfl (E.PV.add rfl rfl rfl) ?_
          refine E.OW.pure rfl rfl rfl (E.PV.assign rfl rfl) ?_
          refine E.OW.nil ?_
          refine E.then_n ?_
          refine E.CW.seq ?_
          refine E.CW.put 7 (.int .u8 (t + 1)) rfl (by refine congrArg (Value.int .u8) ?_; simp only [IntKind.wrap_u8]; omega) ?_
          refine E.CW.drawx mixed [1] rfl ?_
          all_goals (refine E.AW.first 0 rfl (by kernel_rfl) (by kernel_rfl) (by kernel_rfl) rfl rfl rfl (E.PV.fieldAddr fa28_0 rfl rfl) ?_)
          all_goals (refine E.AW.first 1 rfl (by kernel_rfl) (by kernel_rfl) (by kernel_rfl) rfl rfl rfl (E.PV.loads (i := 0) is24 rfl rfl rfl rfl) ?_)
          all_goals (refine E.AW.first 2 rfl (by kernel_rfl) (by kernel_rfl) (by kernel_rfl) rfl rfl rfl (E.PV.fieldAddr fa28_2 rfl rfl) ?_)
          all_goals (refine E.AW.first 3 rfl (by kernel_rfl) (by kernel_rfl) (by kernel_rfl) rfl rfl rfl (E.PV.load (i := 0) na25 rfl rfl rfl rfl) ?_)
          all_goals (refine E.AW.first 4 rfl (by kernel_rfl) (by kernel_rfl) (by kernel_rfl) rfl rfl rfl (E.PV.len Try.underlying25 rfl rfl) ?_)
          all_goals (refine E.AW.first 6 rfl (by kernel_rfl) (by kernel_rfl) (by kernel_rfl) rfl rfl rfl (E.PV.fieldAddr fa28_3 rfl rfl) ?_)
          all_goals (refine E.AW.first 7 rfl (by kernel_rfl) (by kernel_rfl) (by kernel_rfl) rfl rfl rfl (E.PV.load (i := 0) na26 rfl rfl rfl rfl) ?_)
          all_goals (
            refine E.AW.two 5 9 (by kernel_rfl) rfl rfl ?ga1 ?gb1
            case' ga1 =>
                all_goals (refine E.OW.make_tms _ Try.underlying25 in79 rfl rfl rfl rfl rfl rfl rfl ?_ ?_ (fun AT => ?_); (focus (unfold maxLen; omega)); (focus (omega)))
                all_goals (first | (refine E.AW.nil [1] rfl ?_) | (refine E.AW.nil [2] rfl ?_) | (refine E.AW.nil [3] rfl ?_) | (refine E.AW.nil [4] rfl ?_) | (refine E.AW.nil [5] rfl ?_) | (refine E.AW.nil [6] rfl ?_) | (refine E.AW.nil [7] rfl ?_) | (refine E.AW.nil [0] rfl ?_) | (refine E.AW.nil [0] rfl ?_) | (refine E.AW.nil [4, 5] rfl ?_) | (refine E.AW.nil [2, 5] rfl ?_) | (refine E.AW.nil [5, 6] rfl ?_) | (refine E.AW.nil [3, 5] rfl ?_))
                all_goals (refine E.AW.first 8 rfl (by kernel_rfl) (by kernel_rfl) (by kernel_rfl) rfl rfl rfl (E.PV.build (ps := [(0, .tmp 28), (2, .tmp 32), (3, .tmp 34)]) rfl rfl (fun w => bld28_0_2_3 _ _ _ _ _ _ _ _ _ w)) ?_)
                all_goals (refine E.AW.one 9 (by kernel_rfl) rfl ?_)
                all_goals (refine E.OW.alloc (in28.zr) rfl rfl rfl rfl rfl (fun BO => ?_))
                all_goals (first | (refine E.AW.nil [1] rfl ?_) | (refine E.AW.nil [2] rfl ?_) | (refine E.AW.nil [3] rfl ?_) | (refine E.AW.nil [4] rfl ?_) | (refine E.AW.nil [5] rfl ?_) | (refine E.AW.nil [6] rfl ?_) | (refine E.AW.nil [7] rfl ?_) | (refine E.AW.nil [0] rfl ?_) | (refine E.AW.nil [0] rfl ?_) | (refine E.AW.nil [4, 5] rfl ?_) | (refine E.AW.nil [2, 5] rfl ?_) | (refine E.AW.nil [5, 6] rfl ?_) | (refine E.AW.nil [3, 5] rfl ?_))
                all_goals (refine E.AW.one 10 (by kernel_rfl) rfl ?_)
                all_goals (refine E.OW.store (i := 0) in28.size rfl rfl rfl rfl rfl rfl rfl rfl rfl ?_)
                all_goals (first | (refine E.AW.nil [1] rfl ?_) | (refine E.AW.nil [2] rfl ?_) | (refine E.AW.nil [3] rfl ?_) | (refine E.AW.nil [4] rfl ?_) | (refine E.AW.nil [5] rfl ?_) | (refine E.AW.nil [6] rfl ?_) | (refine E.AW.nil [7] rfl ?_) | (refine E.AW.nil [0] rfl ?_) | (refine E.AW.nil [0] rfl ?_) | (refine E.AW.nil [4, 5] rfl ?_) | (refine E.AW.nil [2, 5] rfl ?_) | (refine E.AW.nil [5, 6] rfl ?_) | (refine E.AW.nil [3, 5] rfl ?_))
                all_goals (refine E.AW.done (by kernel_rfl) ?_)
            case' gb1 =>
                all_goals (refine E.OW.alloc (in28.zr) rfl rfl rfl rfl rfl (fun BO => ?_))
                all_goals (first | (refine E.AW.nil [1] rfl ?_) | (refine E.AW.nil [2] rfl ?_) | (refine E.AW.nil [3] rfl ?_) | (refine E.AW.nil [4] rfl ?_) | (refine E.AW.nil [5] rfl ?_) | (refine E.AW.nil [6] rfl ?_) | (refine E.AW.nil [7] rfl ?_) | (refine E.AW.nil [0] rfl ?_) | (refine E.AW.nil [0] rfl ?_) | (refine E.AW.nil [4, 5] rfl ?_) | (refine E.AW.nil [2, 5] rfl ?_) | (refine E.AW.nil [5, 6] rfl ?_) | (refine E.AW.nil [3, 5] rfl ?_))
                all_goals (refine E.AW.one 5 (by kernel_rfl) rfl ?_)
                all_goals (refine E.OW.make_tms _ Try.underlying25 in79 rfl rfl rfl rfl rfl rfl rfl ?_ ?_ (fun AT => ?_); (focus (unfold maxLen; omega)); (focus (omega)))
                all_goals (first | (refine E.AW.nil [1] rfl ?_) | (refine E.AW.nil [2] rfl ?_) | (refine E.AW.nil [3] rfl ?_) | (refine E.AW.nil [4] rfl ?_) | (refine E.AW.nil [5] rfl ?_) | (refine E.AW.nil [6] rfl ?_) | (refine E.AW.nil [7] rfl ?_) | (refine E.AW.nil [0] rfl ?_) | (refine E.AW.nil [0] rfl ?_) | (refine E.AW.nil [4, 5] rfl ?_) | (refine E.AW.nil [2, 5] rfl ?_) | (refine E.AW.nil [5, 6] rfl ?_) | (refine E.AW.nil [3, 5] rfl ?_))
                all_goals (refine E.AW.first 8 rfl (by kernel_rfl) (by kernel_rfl) (by kernel_rfl) rfl rfl rfl (E.PV.build (ps := [(0, .tmp 28), (2, .tmp 32), (3, .tmp 34)]) rfl rfl (fun w => bld28_0_2_3 _ _ _ _ _ _ _ _ _ w)) ?_)
                all_goals (refine E.AW.one 10 (by kernel_rfl) rfl ?_)
                all_goals (refine E.OW.store (i := 1) in28.size rfl rfl rfl rfl rfl rfl rfl rfl rfl ?_)
                all_goals (first | (refine E.AW.nil [1] rfl ?_) | (refine E.AW.nil [2] rfl ?_) | (refine E.AW.nil [3] rfl ?_) | (refine E.AW.nil [4] rfl ?_) | (refine E.AW.nil [5] rfl ?_) | (refine E.AW.nil [6] rfl ?_) | (refine E.AW.nil [7] rfl ?_) | (refine E.AW.nil [0] rfl ?_) | (refine E.AW.nil [0] rfl ?_) | (refine E.AW.nil [4, 5] rfl ?_) | (refine E.AW.nil [2, 5] rfl ?_) | (refine E.AW.nil [5, 6] rfl ?_) | (refine E.AW.nil [3, 5] rfl ?_))
                all_goals (refine E.AW.done (by kernel_rfl) ?_))
          all_goals (
            skip
            refine E.then_n ?_
            refine E.CW.seq ?_
            refine E.CW.drawx mixed [3] rfl ?_
            all_goals (refine E.AW.first 0 rfl (by kernel_rfl) (by kernel_rfl) (by kernel_rfl) rfl rfl rfl (E.PV.fieldAddr fa28_0 rfl rfl) ?_)
            all_goals (refine E.AW.first 1 rfl (by kernel_rfl) (by kernel_rfl) (by kernel_rfl) rfl rfl rfl (E.PV.fieldAddr fa24_2 rfl rfl) ?_)
            all_goals (refine E.AW.first 2 rfl (by kernel_rfl) (by kernel_rfl) (by kernel_rfl) rfl rfl rfl (E.PV.load (i := 0) na22 rfl rfl rfl rfl) ?_)
            all_goals (refine E.AW.first 4 rfl (by kernel_rfl) (by kernel_rfl) (by kernel_rfl) rfl rfl rfl (E.PV.fieldAddr fa28_1 rfl rfl) ?_)
            all_goals (refine E.AW.first 5 rfl (by kernel_rfl) (by kernel_rfl) (by kernel_rfl) rfl rfl rfl (E.PV.load (i := 0) na22 rfl rfl rfl rfl) ?_)
            all_goals (refine E.AW.one 3 (by kernel_rfl) rfl ?_)
            all_goals ((refine E.OW.call nm96 rfl rfl rfl rfl rfl rfl _ (fun w hw => ClU_ok _ _ g.l w ?_ ?_) ?_; (focus (omega)); (focus (refine hw.rd ?_; assumption)); rintro _ _ ⟨AF, cF, rfl, rfl⟩))
            all_goals (first | (refine E.AW.nil [3] rfl ?_) | (refine E.AW.nil [4] rfl ?_) | (refine E.AW.nil [5] rfl ?_) | (refine E.AW.nil [6] rfl ?_) | (refine E.AW.nil [7] rfl ?_) | (refine E.AW.nil [8] rfl ?_) | (refine E.AW.nil [9] rfl ?_) | (refine E.AW.nil [2] rfl ?_) | (refine E.AW.nil [1] rfl ?_) | (refine E.AW.nil [4, 5] rfl ?_) | (refine E.AW.nil [2, 5] rfl ?_) | (refine E.AW.nil [5, 6] rfl ?_) | (refine E.AW.nil [3, 5] rfl ?_))
            all_goals (refine E.AW.first 7 rfl (by kernel_rfl) (by kernel_rfl) (by kernel_rfl) rfl rfl rfl (E.PV.fieldAddr fa28_0 rfl rfl) ?_)
            all_goals (refine E.AW.first 8 rfl (by kernel_rfl) (by kernel_rfl) (by kernel_rfl) rfl rfl rfl (E.PV.fieldAddr fa24_2 rfl rfl) ?_)
            all_goals (refine E.AW.one 6 (by kernel_rfl) rfl ?_)
            all_goals ((refine E.OW.call nm96 rfl rfl rfl rfl rfl rfl _ (fun w hw => ClU_ok _ _ g.s w ?_ ?_) ?_; (focus (omega)); (focus (refine hw.rd ?_; assumption)); rintro _ _ ⟨AS, cS, rfl, rfl⟩))
            all_goals (first | (refine E.AW.nil [3] rfl ?_) | (refine E.AW.nil [4] rfl ?_) | (refine E.AW.nil [5] rfl ?_) | (refine E.AW.nil [6] rfl ?_) | (refine E.AW.nil [7] rfl ?_) | (refine E.AW.nil [8] rfl ?_) | (refine E.AW.nil [9] rfl ?_) | (refine E.AW.nil [2] rfl ?_) | (refine E.AW.nil [1] rfl ?_) | (refine E.AW.nil [4, 5] rfl ?_) | (refine E.AW.nil [2, 5] rfl ?_) | (refine E.AW.nil [5, 6] rfl ?_) | (refine E.AW.nil [3, 5] rfl ?_))
            all_goals (refine E.AW.one 9 (by kernel_rfl) rfl ?_)
            all_goals (refine E.OW.store (i := 2) in22.size rfl rfl rfl rfl rfl rfl rfl rfl rfl ?_)
            all_goals (first | (refine E.AW.nil [3] rfl ?_) | (refine E.AW.nil [4] rfl ?_) | (refine E.AW.nil [5] rfl ?_) | (refine E.AW.nil [6] rfl ?_) | (refine E.AW.nil [7] rfl ?_) | (refine E.AW.nil [8] rfl ?_) | (refine E.AW.nil [9] rfl ?_) | (refine E.AW.nil [2] rfl ?_) | (refine E.AW.nil [1] rfl ?_) | (refine E.AW.nil [4, 5] rfl ?_) | (refine E.AW.nil [2, 5] rfl ?_) | (refine E.AW.nil [5, 6] rfl ?_) | (refine E.AW.nil [3, 5] rfl ?_))
            all_goals (refine E.AW.first 10 rfl (by kernel_rfl) (by kernel_rfl) (by kernel_rfl) rfl rfl rfl (E.PV.fieldAddr fa28_1 rfl rfl) ?_)
            all_goals (refine E.AW.one 11 (by kernel_rfl) rfl ?_)
            all_goals (refine E.OW.store (i := 0) in22.size rfl rfl rfl rfl rfl rfl rfl rfl rfl ?_)
            all_goals (first | (refine E.AW.nil [3] rfl ?_) | (refine E.AW.nil [4] rfl ?_) | (refine E.AW.nil [5] rfl ?_) | (refine E.AW.nil [6] rfl ?_) | (refine E.AW.nil [7] rfl ?_) | (refine E.AW.nil [8] rfl ?_) | (refine E.AW.nil [9] rfl ?_) | (refine E.AW.nil [2] rfl ?_) | (refine E.AW.nil [1] rfl ?_) | (refine E.AW.nil [4, 5] rfl ?_) | (refine E.AW.nil [2, 5] rfl ?_) | (refine E.AW.nil [5, 6] rfl ?_) | (refine E.AW.nil [3, 5] rfl ?_))
            all_goals (refine E.AW.done (by kernel_rfl) ?_)
            all_goals (
              skip
              refine E.then_n ?_
              refine E.CW.seq ?_
              refine E.CW.seq ?_
              refine E.CW.region ?_
              refine E.OW.pure rfl rfl rfl (E.PV.fieldAddr fa28_0 rfl rfl) ?_
              refine E.OW.pure rfl rfl rfl (E.PV.fieldAddr fa24_2 rfl rfl) ?_
              refine E.OW.pure rfl rfl rfl (E.PV.load (i := 0) na22 rfl rfl rfl rfl) ?_
              refine E.OW.pure rfl rfl rfl (E.PV.len Try.underlying22 rfl rfl) ?_
              refine E.OW.pure rfl rfl rfl (E.PV.move rfl rfl) ?_
              refine E.OW.nil ?_
              refine E.then_n ?_
              refine E.CW.block ?_
              refine E.CW.sels [2, 0, 0, 0, 0, 0] rfl ?_
              refine E.CW.loopk [1, 2, 4, 7, 8, 48, 49] 1 rfl rfl (fun mm mods Hm => ∃ k : Nat, mm = g.l.length - k ∧ mods = [(50, .int .i64 k)] ∧ Hm = [E.HP.row 5 1 AF g.l.length cF (E.u8s (Cf.upd (Cf.oc t) g.l k))] ∧ k ≤ g.l.length) (g.l.length) ?_ ?_
              · exact ⟨[(50, _)], (by repeat (first | exact E.cov_nil | refine ⟨rfl, ?_⟩)), 0, rfl, rfl, by rw [Cf.upd_zero], by omega⟩
              · rintro _ _ _ ⟨k, rfl, rfl, rfl, hk⟩
                have hul := Cf.upd_len (Cf.oc t) g.l k
                refine E.CW.seq ?_
                refine E.CW.region ?_
                refine E.OW.pure rfl rfl rfl (E.PV.lss rfl rfl rfl) ?_
                refine E.OW.nil ?_
                refine E.then_n ?_
                refine E.CW.seq ?_
                refine E.CW.cond rfl (fun hc => ?_) (fun hc => ?_)
                · simp only [E.b0, E.b1, E.b2, E.b3, E.b4, E.b5, E.b6, E.b7, E.b8, E.b9, E.b10, E.b11, E.b12, E.b13, E.b14, E.b15, E.b16, E.b17, E.b18, E.b19, E.b20, reduceCtorEq] at hc
                  all_goals (
                    refine E.CW.skip ?_
                    refine E.then_n ?_
                    refine E.CW.seq ?_
                    refine E.CW.block ?_
                    refine E.CW.seq ?_
                    refine E.CW.region ?_
                    refine E.OW.pure rfl rfl rfl (E.PV.move rfl rfl) ?_
                    refine E.OW.pure rfl rfl rfl (E.PV.indexAddr1 (E.rdr (i := 0) rfl) Try.underlying22 in5 rfl rfl rfl rfl ?_ ?_) ?_; (focus (first | (simp; done) | (simp; omega))); (focus (omega))
                    refine E.OW.pure rfl rfl rfl (E.PV.load_u8 (E.rdr (i := 0) rfl) na5 rfl rfl ?_) ?_; (focus (omega))
                    refine E.OW.pure rfl rfl rfl (E.PV.assign rfl rfl) ?_
                    refine E.OW.pure rfl rfl rfl (E.PV.assign rfl rfl) ?_
                    refine E.OW.nil ?_
                    refine E.then_n ?_
                    refine E.CW.seq ?_
                    refine E.CW.put 10 (.int .u8 ((g.l.getD k 0).toNat : Int)) rfl (by rw [Cf.upd_get (by omega)]) ?_
                    refine E.CW.region ?_
                    refine E.OW.pure rfl rfl rfl (E.PV.move rfl rfl) ?_
                    refine E.OW.pure rfl rfl rfl (E.PV.move rfl rfl) ?_
                    refine E.OW.pure rfl rfl rfl (E.PV.neq rfl rfl rfl) ?_
                    refine E.OW.pure rfl rfl rfl (E.PV.move rfl rfl) ?_
                    all_goals (refine E.OW.split 58 rfl (fun hc => ?_) (fun hc => ?_) <;> (try simp only [E.b0, E.b1, E.b2, E.b3, E.b4, E.b5, E.b6, E.b7, E.b8, E.b9, E.b10, E.b11, E.b12, E.b13, E.b14, E.b15, E.b16, E.b17, E.b18, E.b19, E.b20, reduceCtorEq] at hc) <;> (try (exfalso; first | assumption | contradiction | omega)))
                    all_goals (first | (refine E.OW.off rfl rfl rfl ?_) | (refine E.OW.pure rfl rfl rfl (E.PV.move rfl rfl) ?_))
                    all_goals (first | (refine E.OW.off rfl rfl rfl ?_) | (refine E.OW.pure rfl rfl rfl (E.PV.neq rfl rfl rfl) ?_))
                    all_goals (first | (refine E.OW.pure rfl rfl rfl (E.PV.pick_t rfl rfl rfl) ?_) | (refine E.OW.pure rfl rfl rfl (E.PV.pick_f rfl rfl rfl) ?_))
                    all_goals (
                      refine E.OW.nil ?_
                      refine E.then_n ?_
                      refine E.CW.cond rfl (fun hc => ?_) (fun hc => ?_)
                      · first | ((cases hc; done)) | (simp only [E.b0, E.b1, E.b2, E.b3, E.b4, E.b5, E.b6, E.b7, E.b8, E.b9, E.b10, E.b11, E.b12, E.b13, E.b14, E.b15, E.b16, E.b17, E.b18, E.b19, E.b20, reduceCtorEq] at hc)
                        all_goals (
                          refine E.CW.region ?_
                          refine E.OW.pure rfl rfl rfl (E.PV.fieldAddr fa28_0 rfl rfl) ?_
                          refine E.OW.pure rfl rfl rfl (E.PV.fieldAddr fa24_2 rfl rfl) ?_
                          refine E.OW.pure rfl rfl rfl (E.PV.load (i := 1) na22 rfl rfl rfl rfl) ?_
                          refine E.OW.pure rfl rfl rfl (E.PV.move rfl rfl) ?_
                          refine E.OW.pure rfl rfl rfl (E.PV.indexAddr1 (E.rdr (i := 0) rfl) Try.underlying22 in5 rfl rfl rfl rfl ?_ ?_) ?_; (focus (first | (simp; done) | (simp; omega))); (focus (omega))
                          refine E.OW.store_u8 (i := 0) (b := 0) in5.size rfl rfl rfl rfl rfl rfl ?_ ?_; (focus (omega))
                          refine E.OW.nil ?_
                          refine E.blk_n ?_
                          refine E.then_n ?_
                          refine E.CW.region ?_
                          refine E.OW.pure rfl rfl rfl (E.PV.add_i64 rfl rfl rfl ?_) ?_; (focus (omega))
                          refine E.OW.pure rfl rfl rfl (E.PV.move rfl rfl) ?_
                          refine E.OW.nil ?_
                          refine E.then_nf ?_
                          refine ⟨_, [(50, _)], [0, 0, 0, 0, 0, 0], _, ?_, by repeat (first | exact E.cov_nil | refine ⟨rfl, ?_⟩), rfl, k + 1, rfl, rfl, by rw [← Cf.upd_step (show k < g.l.length by omega) (Cf.oc_no (by omega) (by omega))], by omega⟩
                          omega)
                      · simp only [E.b0, E.b1, E.b2, E.b3, E.b4, E.b5, E.b6, E.b7, E.b8, E.b9, E.b10, E.b11, E.b12, E.b13, E.b14, E.b15, E.b16, E.b17, E.b18, E.b19, E.b20, reduceCtorEq] at hc
                        all_goals (
                          refine E.CW.skip ?_
                          refine E.blk_n ?_
                          refine E.then_n ?_
                          refine E.CW.region ?_
                          refine E.OW.pure rfl rfl rfl (E.PV.add_i64 rfl rfl rfl ?_) ?_; (focus (omega))
                          refine E.OW.pure rfl rfl rfl (E.PV.move rfl rfl) ?_
                          refine E.OW.nil ?_
                          refine E.then_nf ?_
                          refine ⟨_, [(50, _)], [0, 0, 0, 0, 0, 0], _, ?_, by repeat (first | exact E.cov_nil | refine ⟨rfl, ?_⟩), rfl, k + 1, rfl, rfl, by rw [← Cf.upd_same (show k < g.l.length by omega) (Cf.oc_yes (by omega))], by omega⟩
                          omega)))
                · simp only [E.b0, E.b1, E.b2, E.b3, E.b4, E.b5, E.b6, E.b7, E.b8, E.b9, E.b10, E.b11, E.b12, E.b13, E.b14, E.b15, E.b16, E.b17, E.b18, E.b19, E.b20, reduceCtorEq] at hc
                  all_goals (
                    refine E.CW.exit ?_
                    refine E.then_x ?_
                    refine E.then_x ?_
                    refine E.blk_eq ?_
                    refine E.then_n ?_
                    refine E.CW.seq ?_
                    refine E.CW.seq ?_
                    have hk1 : k = g.l.length := by omega
                    refine E.CW.region ?_
                    refine E.OW.pure rfl rfl rfl (E.PV.fieldAddr fa28_1 rfl rfl) ?_
                    refine E.OW.pure rfl rfl rfl (E.PV.load (i := 1) na22 rfl rfl rfl rfl) ?_
                    refine E.OW.pure rfl rfl rfl (E.PV.len Try.underlying22 rfl rfl) ?_
                    refine E.OW.pure rfl rfl rfl (E.PV.move rfl rfl) ?_
                    refine E.OW.nil ?_
                    refine E.then_n ?_
                    refine E.CW.block ?_
                    refine E.CW.sels [2, 0, 0, 0, 0, 0] rfl ?_
                    refine E.CW.loopk [1, 2, 4, 7, 8, 69, 70] 1 rfl rfl (fun mm mods Hm => ∃ k : Nat, mm = g.s.length - k ∧ mods = [(71, .int .i64 k)] ∧ Hm = [E.HP.row 5 1 AS g.s.length cS (E.u8s (Cf.upd (Cf.os t) g.s k))] ∧ k ≤ g.s.length) (g.s.length) ?_ ?_
                    · exact ⟨[(71, _)], (by repeat (first | exact E.cov_nil | refine ⟨rfl, ?_⟩)), 0, rfl, rfl, by rw [Cf.upd_zero], by omega⟩
                    · rintro _ _ _ ⟨k, rfl, rfl, rfl, hk⟩
                      have hul := Cf.upd_len (Cf.os t) g.s k
                      refine E.CW.seq ?_
                      refine E.CW.region ?_
                      refine E.OW.pure rfl rfl rfl (E.PV.lss rfl rfl rfl) ?_
                      refine E.OW.nil ?_
                      refine E.then_n ?_
                      refine E.CW.seq ?_
                      refine E.CW.cond rfl (fun hc => ?_) (fun hc => ?_)
                      · simp only [E.b0, E.b1, E.b2, E.b3, E.b4, E.b5, E.b6, E.b7, E.b8, E.b9, E.b10, E.b11, E.b12, E.b13, E.b14, E.b15, E.b16, E.b17, E.b18, E.b19, E.b20, reduceCtorEq] at hc
                        all_goals (
                          refine E.CW.skip ?_
                          refine E.then_n ?_
                          refine E.CW.seq ?_
                          refine E.CW.block ?_
                          refine E.CW.seq ?_
                          refine E.CW.region ?_
                          refine E.OW.pure rfl rfl rfl (E.PV.move rfl rfl) ?_
                          refine E.OW.pure rfl rfl rfl (E.PV.indexAddr1 (E.rdr (i := 0) rfl) Try.underlying22 in5 rfl rfl rfl rfl ?_ ?_) ?_; (focus (first | (simp; done) | (simp; omega))); (focus (omega))
                          refine E.OW.pure rfl rfl rfl (E.PV.load_u8 (E.rdr (i := 0) rfl) na5 rfl rfl ?_) ?_; (focus (omega))
                          refine E.OW.pure rfl rfl rfl (E.PV.assign rfl rfl) ?_
                          refine E.OW.pure rfl rfl rfl (E.PV.assign rfl rfl) ?_
                          refine E.OW.nil ?_
                          refine E.then_n ?_
                          refine E.CW.seq ?_
                          refine E.CW.put 12 (.int .u8 ((g.s.getD k 0).toNat : Int)) rfl (by rw [Cf.upd_get (by omega)]) ?_
                          refine E.CW.region ?_
                          refine E.OW.pure rfl rfl rfl (E.PV.move rfl rfl) ?_
                          refine E.OW.pure rfl rfl rfl (E.PV.move rfl rfl) ?_
                          refine E.OW.pure rfl rfl rfl (E.PV.neq rfl rfl rfl) ?_
                          refine E.OW.nil ?_
                          refine E.then_n ?_
                          refine E.CW.cond rfl (fun hc => ?_) (fun hc => ?_)
                          · simp only [E.b0, E.b1, E.b2, E.b3, E.b4, E.b5, E.b6, E.b7, E.b8, E.b9, E.b10, E.b11, E.b12, E.b13, E.b14, E.b15, E.b16, E.b17, E.b18, E.b19, E.b20, reduceCtorEq] at hc
                            all_goals (
                              refine E.CW.region ?_
                              refine E.OW.pure rfl rfl rfl (E.PV.fieldAddr fa28_1 rfl rfl) ?_
                              refine E.OW.pure rfl rfl rfl (E.PV.load (i := 2) na22 rfl rfl rfl rfl) ?_
                              refine E.OW.pure rfl rfl rfl (E.PV.move rfl rfl) ?_
                              refine E.OW.pure rfl rfl rfl (E.PV.indexAddr1 (E.rdr (i := 0) rfl) Try.underlying22 in5 rfl rfl rfl rfl ?_ ?_) ?_; (focus (first | (simp; done) | (simp; omega))); (focus (omega))
                              refine E.OW.store_u8 (i := 0) (b := 0) in5.size rfl rfl rfl rfl rfl rfl ?_ ?_; (focus (omega))
                              refine E.OW.nil ?_
                              refine E.blk_n ?_
                              refine E.then_n ?_
                              refine E.CW.region ?_
                              refine E.OW.pure rfl rfl rfl (E.PV.add_i64 rfl rfl rfl ?_) ?_; (focus (omega))
                              refine E.OW.pure rfl rfl rfl (E.PV.move rfl rfl) ?_
                              refine E.OW.nil ?_
                              refine E.then_nf ?_
                              refine ⟨_, [(71, _)], [0, 0, 0, 0, 0, 0], _, ?_, by repeat (first | exact E.cov_nil | refine ⟨rfl, ?_⟩), rfl, k + 1, rfl, rfl, by rw [← Cf.upd_step (show k < g.s.length by omega) (Cf.os_no (by omega))], by omega⟩
                              omega)
                          · simp only [E.b0, E.b1, E.b2, E.b3, E.b4, E.b5, E.b6, E.b7, E.b8, E.b9, E.b10, E.b11, E.b12, E.b13, E.b14, E.b15, E.b16, E.b17, E.b18, E.b19, E.b20, reduceCtorEq] at hc
                            all_goals (
                              refine E.CW.skip ?_
                              refine E.blk_n ?_
                              refine E.then_n ?_
                              refine E.CW.region ?_
                              refine E.OW.pure rfl rfl rfl (E.PV.add_i64 rfl rfl rfl ?_) ?_; (focus (omega))
                              refine E.OW.pure rfl rfl rfl (E.PV.move rfl rfl) ?_
                              refine E.OW.nil ?_
                              refine E.then_nf ?_
                              refine ⟨_, [(71, _)], [0, 0, 0, 0, 0, 0], _, ?_, by repeat (first | exact E.cov_nil | refine ⟨rfl, ?_⟩), rfl, k + 1, rfl, rfl, by rw [← Cf.upd_same (show k < g.s.length by omega) (Cf.os_yes (by omega))], by omega⟩
                              omega))
                      · simp only [E.b0, E.b1, E.b2, E.b3, E.b4, E.b5, E.b6, E.b7, E.b8, E.b9, E.b10, E.b11, E.b12, E.b13, E.b14, E.b15, E.b16, E.b17, E.b18, E.b19, E.b20, reduceCtorEq] at hc
                        all_goals (
                          refine E.CW.exit ?_
                          refine E.then_x ?_
                          refine E.then_x ?_
                          refine E.blk_eq ?_
                          refine E.then_n ?_
                          refine E.CW.seq ?_
                          have hk2 : k = g.s.length := by omega
                          refine E.CW.drawx mixed [2, 4] rfl ?_
                          all_goals (refine E.AW.first 0 rfl (by kernel_rfl) (by kernel_rfl) (by kernel_rfl) rfl rfl rfl (E.PV.fieldAddr fa28_2 rfl rfl) ?_)
                          all_goals (refine E.AW.first 1 rfl (by kernel_rfl) (by kernel_rfl) (by kernel_rfl) rfl rfl rfl (E.PV.load (i := 0) na25 rfl rfl rfl rfl) ?_)
                          all_goals (refine E.AW.first 2 rfl (by kernel_rfl) (by kernel_rfl) (by kernel_rfl) rfl rfl rfl (E.PV.move rfl rfl) ?_)
                          all_goals (refine E.AW.first 3 rfl (by kernel_rfl) (by kernel_rfl) (by kernel_rfl) rfl rfl rfl (E.PV.fieldAddr fa28_2 rfl rfl) ?_)
                          all_goals (refine E.AW.first 4 rfl (by kernel_rfl) (by kernel_rfl) (by kernel_rfl) rfl rfl rfl (E.PV.load (i := 1) na25 rfl rfl rfl rfl) ?_)
                          all_goals (refine E.AW.first 5 rfl (by kernel_rfl) (by kernel_rfl) (by kernel_rfl) rfl rfl rfl (E.PV.move rfl rfl) ?_)
                          all_goals (refine E.AW.first 6 rfl (by kernel_rfl) (by kernel_rfl) (by kernel_rfl) rfl rfl rfl (E.PV.indexAddr (E.rdc hX3) Try.underlying25 in79 rfl rfl rfl (E.tn ?_) ?_ ?_ (by decide)) ?_; (focus (omega)); (focus (first | (simp; done) | (simp; omega))); (focus (omega)))
                          all_goals (refine E.AW.first 7 rfl (by kernel_rfl) (by kernel_rfl) (by kernel_rfl) rfl rfl rfl (E.PV.load_tm (E.rdc hX3) is79 rfl rfl ?_) ?_; (focus (omega)))
                          all_goals (refine E.AW.one 8 (by kernel_rfl) rfl ?_)
                          all_goals ((refine E.OW.call nm97 rfl rfl rfl rfl rfl rfl _ (fun w hw => Cp_ok (g.ts.getD t.toNat E.Tm.z) w (hw.rdm (hg.m _ (E.Tm.mem (by omega)))) (E.Cfg.fit_m hgf _ (E.Tm.mem (by omega)))) ?_; rintro _ _ ⟨mC, rfl, rfl, hmC⟩))
                          all_goals (first | (refine E.AW.nil [2, 4] rfl ?_) | (refine E.AW.nil [3, 5] rfl ?_) | (refine E.AW.nil [4, 6] rfl ?_) | (refine E.AW.nil [5, 7] rfl ?_) | (refine E.AW.nil [6, 8] rfl ?_) | (refine E.AW.nil [7, 9] rfl ?_) | (refine E.AW.nil [8, 10] rfl ?_) | (refine E.AW.nil [1, 3] rfl ?_) | (refine E.AW.nil [0, 2] rfl ?_) | (refine E.AW.nil [4, 5] rfl ?_) | (refine E.AW.nil [2, 5] rfl ?_) | (refine E.AW.nil [5, 6] rfl ?_) | (refine E.AW.nil [3, 5] rfl ?_))
                          all_goals (refine E.AW.one 9 (by kernel_rfl) rfl ?_)
                          all_goals (refine E.OW.pure rfl rfl rfl (E.PV.indexAddr (E.rdr (i := 4) rfl) Try.underlying25 in79 rfl rfl rfl (E.tn ?_) ?_ ?_ (by decide)) ?_; (focus (omega)); (focus (first | (simp; done) | (simp; omega))); (focus (omega)))
                          all_goals (first | (refine E.AW.nil [2, 4] rfl ?_) | (refine E.AW.nil [3, 5] rfl ?_) | (refine E.AW.nil [4, 6] rfl ?_) | (refine E.AW.nil [5, 7] rfl ?_) | (refine E.AW.nil [6, 8] rfl ?_) | (refine E.AW.nil [7, 9] rfl ?_) | (refine E.AW.nil [8, 10] rfl ?_) | (refine E.AW.nil [1, 3] rfl ?_) | (refine E.AW.nil [0, 2] rfl ?_) | (refine E.AW.nil [4, 5] rfl ?_) | (refine E.AW.nil [2, 5] rfl ?_) | (refine E.AW.nil [5, 6] rfl ?_) | (refine E.AW.nil [3, 5] rfl ?_))
                          all_goals (refine E.AW.one 10 (by kernel_rfl) rfl ?_)
                          all_goals (refine E.OW.store_tm (i := 4) in79.size rfl rfl rfl rfl rfl rfl ?_ ?_ ?_; (focus (omega)); (focus (simp; done)))
                          all_goals (first | (refine E.AW.nil [2, 4] rfl ?_) | (refine E.AW.nil [3, 5] rfl ?_) | (refine E.AW.nil [4, 6] rfl ?_) | (refine E.AW.nil [5, 7] rfl ?_) | (refine E.AW.nil [6, 8] rfl ?_) | (refine E.AW.nil [7, 9] rfl ?_) | (refine E.AW.nil [8, 10] rfl ?_) | (refine E.AW.nil [1, 3] rfl ?_) | (refine E.AW.nil [0, 2] rfl ?_) | (refine E.AW.nil [4, 5] rfl ?_) | (refine E.AW.nil [2, 5] rfl ?_) | (refine E.AW.nil [5, 6] rfl ?_) | (refine E.AW.nil [3, 5] rfl ?_))
                          all_goals (refine E.AW.done (by kernel_rfl) ?_)
                          all_goals (
                            skip
                            refine E.then_n ?_
                            refine E.CW.seq ?_
                            refine E.CW.tmsz g.ts.length ?_
                            refine E.CW.tmsput 2 0 t.toNat rfl rfl (by simp; omega) ?_
                            refine E.CW.chunk 1 (E.HP.row 79 8 AT ((List.replicate g.ts.length E.Tm.z).set t.toNat mC).length g.ts.length (E.tms ((List.replicate g.ts.length E.Tm.z).set t.toNat mC))) rfl (by rw [List.length_set, List.length_replicate]) ?_
                            refine E.CW.chunk 2 (E.HP.row 5 1 AS (g.s.map (Cf.os t)).length cS (E.u8s (g.s.map (Cf.os t)))) rfl (by rw [hk2, Cf.upd_end, List.length_map]) ?_
                            refine E.CW.chunk 3 (E.HP.row 5 1 AF (g.l.map (Cf.oc t)).length cF (E.u8s (g.l.map (Cf.oc t)))) rfl (by rw [hk1, Cf.upd_end, List.length_map]) ?_
                            refine E.CW.gather [0, 0, 0, 0, 0, 0, 0] 4 rfl rfl ?_
                            refine E.CW.region ?_
                            refine E.OW.pure rfl rfl rfl (E.PV.loads (i := 1) is28 rfl rfl rfl rfl) ?_
                            refine E.OW.store (i := 2) in28.size rfl rfl rfl rfl rfl rfl rfl rfl rfl ?_
                            refine E.OW.pure rfl rfl rfl (E.PV.assign rfl rfl) ?_
                            refine E.OW.nil ?_
                            refine E.then_n ?_
                            refine E.CW.ret ?_
                            refine E.KR.rv2 [1] Try.results54 (E.rv.cell is28 rfl (E.sli 0 rfl) rfl) rfl rfl ?_
                            rw [show Cf.onlyR g.q t = (Cf.only g.q t, 0) from (if_pos hcz).trans (if_pos hpp)]
                            exact ⟨⟨g.a, g.b, g.l.map (Cf.oc t), g.s.map (Cf.os t), ((List.replicate g.ts.length E.Tm.z).set t.toNat mC), g.st, AF, cF, AS, cS, AT, g.ts.length⟩, by simp [E.Cfg.v, E.Cfg.cells], rfl, by simp only [E.Cfg.q, Cf.only]; rw [Cf.set_q htb hmC]; rfl⟩)))))))
end Go.Proofs.Ytflkbabhbnmajaa

/- A writer behind a pointer, numbers as bytes, and the encoding of a config. No program in sight. -/
namespace Go.Proofs.Ytflkbabhbnmajaa
set_option linter.unusedSimpArgs false
set_option linter.unusedVariables false
namespace Cf
open Go
def byt (n : Int) : UInt8 := UInt8.ofNat (n % 256).toNat
def encL (l : List Int) : List UInt8 := byt l.length :: l.map byt
def nums (t : T) : List Int := [t.n1, t.n2, t.n3, t.n4, t.n5]
def encT (t : T) : List UInt8 := encL t.h ++ if t.h.length = 0 then [] else encL t.p ++ encL t.d ++ (nums t).map byt
def encTs (ts : List T) (k : Nat) : List UInt8 := (ts.take k).flatMap encT
def be (n : Int) (k : Nat) : List UInt8 := (List.range k).map fun (i : Nat) => byt (n / 256 ^ (7 - i))
def head (g : C) : List UInt8 := [byt g.a, byt g.b] ++ g.l ++ [byt g.s.length] ++ g.s ++ [byt g.ts.length]
def enc (g : C) : List UInt8 := head g ++ encTs g.ts g.ts.length ++ be g.st 8
def encR (g : C) : List UInt8 × Int := if check g = 0 then (enc g, 0) else ([], check g)
theorem div_b {n : Int} (hn : 0 ≤ n ∧ n < 18446744073709551616) (j : Nat) : 0 ≤ n / 256 ^ j ∧ n / 256 ^ j < 18446744073709551616 := by
  have hp : (0 : Int) < 256 ^ j := Int.pow_pos (by omega)
  refine ⟨Int.ediv_nonneg hn.1 (by omega), ?_⟩
  have := Int.ediv_le_self (256 ^ j) hn.1
  omega
/-- the lengths of a valid team's lists. -/
def small (t : T) : Prop := t.h.length ≤ 3 ∧ t.p.length ≤ 3 ∧ t.d.length ≤ 3
end Cf
namespace E
open Go Go.RowKit
section
variable {P : Program} {n : Fr} {w0 : World} {F : Nat → Prop} {K : Kt} {l : Env} {H : List HP} {o : Oper}
theorem PV.nilCheck {x : Operand} {ad : Addr} (ho : o.op = .nilCheck x) (hx : ev l x = some (.pointer (some ad))) : PV P n w0 F l H o (.pointer (some ad)) := fun a w ha _ => by
  simp [execOp, ho, ha.ev hx]
/-- a writer: its block and its bytes. -/
def HP.wrt (B : Nat) (bs : List UInt8) : HP where
  sem S w := ∃ A c, (HP.bag [HP.blk B 107 [.slice A bs.length c], HP.row 5 1 A bs.length c (u8s bs)]).sem S w
  loc := fun S w w' h ⟨A, c, hb⟩ => ⟨A, c, (HP.bag _).loc S w w' h hb⟩
/-- the frame of a function that may turn the chunk p alone. -/
def Fm (w : World) (S : Nat → Prop) : Nat → Prop := fun k => k < w.heap.size ∧ ¬ S k
theorem HA.startM {w : World} {S : Nat → Prop} {p : HP} (hS : p.sem S w) (hb : ∀ k, S k → k < w.heap.size) : HA w (Fm w S) [p] w :=
  ⟨rfl, rfl, rfl, Nat.le_refl _, fun _ h => h.1, fun _ _ => rfl, S, hS, fun k hk => ⟨hb k hk, fun h => h.2 hk⟩, trivial⟩
theorem HA.rdM {w : World} (h : HA w0 F H w) {A : Option Addr} {xs : List Value} (hr : Rd w0 F A xs) {S : Nat → Prop} (hb : ∀ k, S k → k < w.heap.size ∧ ¬ F k) : Rd w (Fm w S) A xs := fun hx => by
  obtain ⟨ad, rfl, hg, hc⟩ := hr hx
  refine ⟨ad, rfl, ⟨Nat.lt_of_lt_of_le (h.flt _ hg) h.size, fun hs => (hb _ hs).2 hg⟩, fun j u hu => ?_⟩
  rw [World.cell?_of_block (w := w0) (a := ad.add j) (by rw [Addr.add_block]; exact h.kept _ hg)]
  exact hc j u hu
theorem HA.rdTM {w : World} (h : HA w0 F H w) {m : Tm} (hr : m.rd w0 F) {S : Nat → Prop} (hb : ∀ k, S k → k < w.heap.size ∧ ¬ F k) : m.rd w (Fm w S) := ⟨h.rdM hr.1 hb, h.rdM hr.2.1 hb, h.rdM hr.2.2 hb⟩
theorem OW.chunk {ops : Array Oper} {rest : List Oper} (i : Nat) {p : HP} (p' : HP) {H' : List HP} (hi : sel H i = some (p, H')) (he : p = p') (k : OW P n w0 F ops K rest l (p' :: H')) : OW P n w0 F ops K rest l H := fun a w ha hw => k a w ha (he ▸ hw.sel hi)
end
end E
end Go.Proofs.Ytflkbabhbnmajaa

/- Reading a config out of bytes: the plain parser, and laws for parts of slices and for bits. No program in sight. -/
namespace Go.Proofs.Ytflkbabhbnmajaa
set_option linter.unusedSimpArgs false
set_option linter.unusedVariables false
namespace Cf
open Go
/-! ### The parser -/
abbrev Bs := List UInt8
def n1 : Bs → Option (Nat × Bs)
  | [] => none
  | y :: r => some (y.toNat, r)
def tk (n : Nat) (s : Bs) : Option (Bs × Bs) := if n ≤ s.length then some (s.take n, s.drop n) else none
def is (l : Bs) : List Int := l.map fun y => (y.toNat : Int)
def ls (s : Bs) : Option (List Int × Bs) := (n1 s).bind fun x => (tk x.1 x.2).map fun y => (is y.1, y.2)
def nsP : Nat → Bs → Option (List Int × Bs)
  | 0, s => some ([], s)
  | n + 1, s => (nsP n s).bind fun x => (n1 x.2).map fun y => (x.1 ++ [(y.1 : Int)], y.2)
def tmP (s : Bs) : Option (T × Bs) := (ls s).bind fun h =>
  if h.1.length = 0 then some (⟨h.1, [], [], 0, 0, 0, 0, 0⟩, h.2) else
  (ls h.2).bind fun p => (ls p.2).bind fun d => (nsP 5 d.2).map fun x => (⟨h.1, p.1, d.1, x.1.getD 0 0, x.1.getD 1 0, x.1.getD 2 0, x.1.getD 3 0, x.1.getD 4 0⟩, x.2)
def tmsP : Nat → Bs → Option (List T × Bs)
  | 0, s => some ([], s)
  | n + 1, s => (tmsP n s).bind fun x => (tmP x.2).map fun y => (x.1 ++ [y.1], y.2)
def beval (l : Bs) : Int := l.foldl (fun a c => a * 256 + (c.toNat : Int)) 0
def cfP (s : Bs) : Option (C × Bs) := (n1 s).bind fun a => (n1 a.2).bind fun b => (tk (a.1 * b.1) b.2).bind fun l => (n1 l.2).bind fun k => (tk k.1 k.2).bind fun q => (n1 q.2).bind fun n => (tmsP n.1 n.2).bind fun ts => (tk 8 ts.2).map fun st =>
  (⟨a.1, b.1, l.1, q.1, ts.1, beval st.1⟩, st.2)
def dec (b : Bs) : C × Int := if 256 < b.length then (zero, 4) else match cfP b with
  | none => (zero, 10)
  | some x => if 0 < x.2.length then (zero, 11) else if check x.1 = 0 then (x.1, 0) else (zero, check x.1)

/-- what a reading step has done: from the bytes left (none: there were too few) to the bytes left. -/
def Res {α : Type} (p : Bs → Option (α × Bs)) (s : Option Bs) (x : α) (s' : Option Bs) : Prop := match s.bind p with
  | none => s' = none
  | some y => s' = some y.2 ∧ x = y.1
/-! ### The reader's state: a position and an error -/
def str (b : Bs) (p : Nat) (e : Int) : Option Bs := if e = 0 then some (b.drop p) else none
def numP (m : Nat) (s : Bs) : Option (Int × Bs) := (tk m s).map fun y => (beval y.1, y.2)
/-! ### What is read is small -/
def tiny (l : List Int) : Prop := l.length ≤ 255 ∧ ∀ n ∈ l, 0 ≤ n ∧ n < 256
/-! ### The specification's reader: what is left, and whether it was too short -/
def st2 (sh : Bool) (s : Bs) : Option Bs := if sh = true then none else some s
end Cf
namespace E
open Go Go.RowKit
section
variable {P : Program} {n : Fr} {w0 : World} {F : Nat → Prop} {K : Kt} {l : Env} {H : List HP} {o : Oper}
def subA (A : Option Addr) (c k : Nat) : Option Addr := if c = k then A else A.map (·.add (k * 1))
theorem rd_sub {w : World} {G : Nat → Prop} {A : Option Addr} {c k m : Nat} {b : List UInt8} (hr : Rd w G A (u8s b)) (h : k + m ≤ b.length) (hc : b.length ≤ c) : Rd w G (subA A c k) (u8s ((b.drop k).take m)) := fun hx => by
  have hm : 0 < m := by
    rcases Nat.eq_zero_or_pos m with e | e
    · subst e; simp at hx
    · exact e
  obtain ⟨ad, rfl, hg, hcl⟩ := hr (by simp; omega)
  refine ⟨ad.add (k * 1), by simp [subA]; intro e; omega, by rw [Addr.add_block]; exact hg, fun j u hu => ?_⟩
  rw [Addr.add_add']
  refine hcl _ u ?_
  simp only [u8s, List.getElem?_map, List.getElem?_take, List.getElem?_drop, Nat.mul_one] at hu ⊢
  split at hu
  · exact hu
  · simp at hu
/-- where one slice can be read, so can the other. -/
def Sb (A : Option Addr) (s : List UInt8) (A2 : Option Addr) (s2 : List UInt8) : Prop := ∀ w G, Rd w G A (u8s s) → Rd w G A2 (u8s s2)
theorem Sb.refl (A : Option Addr) (s : List UInt8) : Sb A s A s := fun _ _ h => h
theorem Sb.trans {A A2 A3 : Option Addr} {s s2 s3 : List UInt8} (h : Sb A s A2 s2) (h2 : Sb A2 s2 A3 s3) : Sb A s A3 s3 := fun w G hr => h2 w G (h w G hr)
theorem Sb.nil (A A2 : Option Addr) (s : List UInt8) : Sb A s A2 [] := fun _ _ _ hx => by simp at hx
theorem Sb.drop {A : Option Addr} {c k : Nat} {s : List UInt8} (h : k ≤ s.length) (hc : s.length ≤ c) : Sb A s (subA A c k) (s.drop k) := fun w G hr => by
  have := rd_sub (k := k) (m := s.length - k) hr (by omega) hc
  rwa [List.take_of_length_le (by rw [List.length_drop]; omega)] at this
theorem HA.rowcap {w : World} (h : HA w0 F H w) {i Et sz m c : Nat} {A : Option Addr} {xs : List Value} {H' : List HP} (hi : E.sel H i = some (HP.row Et sz A m c xs, H')) : m ≤ c := by
  rcases (h.row hi).2 with ⟨hv, hm⟩ | ⟨g, cap, cur, hv, _, _, hnc, _⟩
  · subst hm; omega
  · injection hv with _ _ hc; omega
def ptrs (B k m : Nat) : List Value := (List.range m).map fun i => .pointer (some ⟨B, k + i, .none⟩)
@[simp] theorem ptrs_length (B k m : Nat) : (ptrs B k m).length = m := by simp [ptrs]
theorem OW.tmsnoc {ops : Array Oper} {rest : List Oper} {H1 : List HP} {m : Tm} {ts : List Tm} (i j : Nat) {H2 : List HP} (hi : sel H i = some (HP.tm m, H1)) (hj : sel H1 j = some (HP.tms ts, H2)) (k : OW P n w0 F ops K rest l (HP.tms (ts ++ [m]) :: H2)) : OW P n w0 F ops K rest l H := fun a w ha hw => by
  have h1 := hw.perm ((sel_perm hi).trans ((sel_perm hj).cons _))
  refine k a w ha { h1 with chunks := ?_ }
  have h2 := Chunks.bag_in h1.chunks
  refine Chunks.bag_perm ?_ h2
  simp only [List.map_append, List.map_cons, List.map_nil]
  exact (List.perm_append_comm (l₁ := [HP.tm m]) (l₂ := ts.map HP.tm))
end
end E
end Go.Proofs.Ytflkbabhbnmajaa

/- The chapter's example, plainly. -/
namespace Go.Proofs.Ytflkbabhbnmajaa
set_option linter.unusedSimpArgs false
set_option linter.unusedVariables false
namespace Cf
open Go
def exs : List UInt8 := [1, 1, 0, 2, 2, 0]
def exl : List UInt8 := [1, 1, 255, 1, 1, 1, 1, 255, 1, 1, 2, 2, 255, 2, 2, 2, 2, 255, 2, 2]
def exo (k : Nat) : UInt8 := if k < 2 then 1 else 2
def ext (k : Int) : T := ⟨[10 * k], [5 + 10 * k], [4 + 10 * k], 1, 1, 2, 2, 8⟩
def ex : C := ⟨5, 4, exl, exs, [ext 0, ext 1], 0⟩
def six : List UInt8 := [1, 255, 1, 1, 1, 2]
def one (t : Int) : T := ⟨[0], [2], [t], 1, 8, 2, 16, 64⟩
def tail : List UInt8 := [6, 1, 1, 0, 2, 2, 0, 2, 1, 0, 1, 5, 1, 4, 1, 1, 2, 2, 8, 1, 10, 1, 15, 1, 14, 1, 1, 2, 2, 8]
theorem exo_val {k : Nat} (h : k < 4) : 1 + (k : Int) / 2 = ((exo k).toNat : Int) := by
  rcases (by omega : k = 0 ∨ k = 1 ∨ k = 2 ∨ k = 3) with rfl | rfl | rfl | rfl <;> rfl
theorem exl_step {k : Nat} (h : k < 4) : exl.take (5 * k) ++ [exo k, exo k, 255, exo k, exo k] = exl.take (5 * (k + 1)) := by
  rcases (by omega : k = 0 ∨ k = 1 ∨ k = 2 ∨ k = 3) with rfl | rfl | rfl | rfl <;> rfl
theorem ext_step {ts : List E.Tm} {k : Nat} {m : E.Tm} (h : ts.map (·.q) = ex.ts.take k) (hk : k < 2) (hm : m.q = ext k) : (ts ++ [m]).map (·.q) = ex.ts.take (k + 1) := by
  rw [List.map_append, h, List.map_cons, hm]
  rcases (by omega : k = 0 ∨ k = 1) with rfl | rfl <;> rfl
theorem ex_fit : ex.fit := ⟨by simp [ex, i64], by simp [ex, i64], by simp [ex, exl], by simp [ex, exs], by simp [ex], (by
  intro t ht
  have hc : ∀ k : Int, k = 0 ∨ k = 1 → (ext k).fit := fun k hk => ⟨by simp [ext], by simp [ext], by simp [ext], (by intro n hn; simp [ext] at hn; omega), (by intro n hn; simp [ext] at hn; omega), (by intro n hn; simp [ext] at hn; omega), by simp [ext, i64], by simp [ext, i64], by simp [ext, i64], by simp [ext, i64], by simp [ext, i64]⟩
  simp only [ex, List.mem_cons, List.not_mem_nil, or_false] at ht
  rcases ht with rfl | rfl
  · exact hc 0 (.inl rfl)
  · exact hc 1 (.inr rfl)), by simp [ex]⟩
end Cf
namespace E
open Go Go.RowKit
section
variable {P : Program} {n : Fr} {w0 : World} {F : Nat → Prop} {K : Kt} {l : Env} {H : List HP} {o : Oper}
theorem CW.cap {c' : Code} (i : Nat) {Et sz m c : Nat} {A : Option Addr} {xs : List Value} {H' : List HP} (hi : E.sel H i = some (HP.row Et sz A m c xs, H')) (k : m ≤ c → CW P n w0 F c' K l H) : CW P n w0 F c' K l H := fun a w ha hw => k (hw.rowcap hi) a w ha hw
theorem OW.conv {ops : Array Oper} {rest : List Oper} {H' : List HP} (h : ∀ w U, Chunks w U H → Chunks w U H') (k : OW P n w0 F ops K rest l H') : OW P n w0 F ops K rest l H := fun a w ha hw => k a w ha { hw with chunks := h w _ hw.chunks }
theorem OW.gather {ops : Array Oper} {rest : List Oper} {H1 ps r : List HP} (is : List Nat) (m : Nat) (hs : E.sels H is = some H1) (h2 : spl H1 m = some (ps, r)) (k : OW P n w0 F ops K rest l (HP.bag ps :: r)) : OW P n w0 F ops K rest l H :=
  OW.sels is hs (OW.conv (fun w U h => by rw [spl_eq h2] at h; exact h.gather) k)
end
end E
end Go.Proofs.Ytflkbabhbnmajaa

/- Walks (printed by gen.py). -/
namespace Go.Proofs.Ytflkbabhbnmajaa
open Go Go.RowKit
set_option linter.unusedSimpArgs false
set_option linter.unusedVariables false

set_option maxRecDepth 100000 in
theorem Exa_ok  (w0 : World) :
    Calls Try.prog 110 #[] w0 (E.Post w0 (E.Old w0) fun v Hn => ∃ g2 : E.Cfg, v = g2.v ∧ Hn = [E.HP.cfg g2] ∧ g2.q = Cf.ex) := by
  refine E.calls_of (vs := []) (H := []) Try.func110 Try.ntmps110 rfl rfl (E.HA.start w0) ?_
  refine E.CW.seq ?_
  refine E.CW.region ?_
  refine E.OW.alloc (in28.zr) rfl rfl rfl rfl rfl (fun B1 => ?_)
  refine E.OW.nil ?_
  refine E.then_n ?_
  refine E.CW.seq ?_
  refine E.CW.region ?_
  refine E.OW.pure rfl rfl rfl (E.PV.build (ps := [(0, .const (.int .i64 5)), (1, .const (.int .i64 4))]) rfl rfl (fun w => bld24_0_1 _ _ w)) ?_
  refine E.OW.buildSlice (Et := 5) (sz := 1) (cs := E.u8s Cf.exs) (ps := [(0, .const (.int .u8 1)), (1, .const (.int .u8 1)), (2, .const (.int .u8 0)), (3, .const (.int .u8 2)), (4, .const (.int .u8 2)), (5, .const (.int .u8 0))]) rfl rfl rfl rfl rfl rfl (by unfold maxLen; omega) (fun w => bsl22_6_0_1_2_3_4_5 _ _ _ _ _ _ w) (fun AS => ?_); refine E.OW.chunk 0 (E.HP.row 5 1 AS (List.length Cf.exs) 6 (E.u8s Cf.exs)) rfl rfl ?_; refine E.OW.put 6 (.slice AS (List.length Cf.exs) 6) rfl rfl ?_
  refine E.OW.pure rfl rfl rfl (E.PV.build (ps := [(0, .tmp 5), (1, .tmp 6)]) rfl rfl (fun w => bld28_0_1 _ _ _ _ _ _ _ _ w)) ?_
  refine E.OW.alloc (in28.zr) rfl rfl rfl rfl rfl (fun BX => ?_)
  refine E.OW.store (i := 0) in28.size rfl rfl rfl rfl rfl rfl rfl rfl rfl ?_
  refine E.OW.nil ?_
  refine E.then_n ?_
  refine E.CW.seq ?_
  refine E.CW.seq ?_
  refine E.CW.nilrow 5 1 ?_
  refine E.CW.region ?_
  refine E.OW.pure rfl rfl rfl (E.PV.assign rfl rfl) ?_
  refine E.OW.nil ?_
  refine E.then_n ?_
  refine E.CW.block ?_
  refine E.CW.loopk [0, 1] 2 rfl rfl (fun mm mods Hm => ∃ k : Nat, ∃ D : Option Addr, ∃ q : Nat, mm = 4 - k ∧ mods = [(2, .int .i64 k)] ∧ Hm = [E.HP.row 5 1 D (Cf.exl.take (5 * k)).length q (E.u8s (Cf.exl.take (5 * k))), E.HP.blk BX 28 [.int .i64 5, .int .i64 4, .slice D (Cf.exl.take (5 * k)).length q, .slice AS (List.length Cf.exs) 6, .slice none 0 0, .int .u64 0]] ∧ k ≤ 4) (4) ?_ ?_
  · exact ⟨[(2, _)], (by repeat (first | exact E.cov_nil | refine ⟨rfl, ?_⟩)), 0, none, 0, rfl, rfl, rfl, by omega⟩
  · rintro _ _ _ ⟨k, D, q, rfl, rfl, rfl, hk⟩
    refine E.CW.seq ?_
    refine E.CW.seq ?_
    refine E.CW.region ?_
    refine E.OW.pure rfl rfl rfl (E.PV.move rfl rfl) ?_
    refine E.OW.pure rfl rfl rfl (E.PV.lss rfl rfl rfl) ?_
    refine E.OW.nil ?_
    refine E.then_n ?_
    refine E.CW.cond rfl (fun hc => ?_) (fun hc => ?_)
    · simp only [E.b0, E.b1, E.b2, E.b3, E.b4, E.b5, E.b6, E.b7, E.b8, E.b9, E.b10, E.b11, E.b12, E.b13, E.b14, E.b15, E.b16, E.b17, E.b18, E.b19, E.b20, reduceCtorEq] at hc
      all_goals (
        refine E.CW.skip ?_
        refine E.then_n ?_
        refine E.CW.seq ?_
        refine E.CW.block ?_
        refine E.CW.seq ?_
        refine E.CW.region ?_
        refine E.OW.pure rfl rfl rfl (E.PV.move rfl rfl) ?_
        refine E.OW.pure rfl rfl rfl (E.PV.quo_i64 rfl rfl rfl ?_ ?_) ?_; (focus (omega)); (focus (omega))
        refine E.OW.pure rfl rfl rfl (E.PV.add_i64 rfl rfl rfl ?_) ?_; (focus (omega))
        refine E.OW.pure rfl rfl rfl (E.PV.conv_in Try.underlying3 Try.underlying5 rfl rfl ?_) ?_; (focus (first | exact E.wrap_u8 _ | (simp only [IntKind.wrap_i64, IntKind.wrap_u64, IntKind.wrap_u8]; omega)))
        refine E.OW.pure rfl rfl rfl (E.PV.assign rfl rfl) ?_
        refine E.OW.nil ?_
        refine E.then_n ?_
        refine E.CW.put 3 (.int .u8 ((Cf.exo k).toNat : Int)) rfl (by refine congrArg (Value.int .u8) ?_; exact Cf.exo_val (by omega)) ?_
        have hlk : (Cf.exl.take (5 * k)).length ≤ 20 := by simp [Cf.exl]; omega
        refine E.CW.region ?_
        refine E.OW.pure rfl rfl rfl (E.PV.fieldAddr fa28_0 rfl rfl) ?_
        refine E.OW.pure rfl rfl rfl (E.PV.fieldAddr fa24_2 rfl rfl) ?_
        refine E.OW.pure rfl rfl rfl (E.PV.load (i := 1) na22 rfl rfl rfl rfl) ?_
        refine E.OW.pure rfl rfl rfl (E.PV.move rfl rfl) ?_
        refine E.OW.pure rfl rfl rfl (E.PV.move rfl rfl) ?_
        refine E.OW.pure rfl rfl rfl (E.PV.move rfl rfl) ?_
        refine E.OW.pure rfl rfl rfl (E.PV.move rfl rfl) ?_
        refine E.OW.buildSlice (Et := 5) (sz := 1) (cs := E.u8s ([Cf.exo k, Cf.exo k, 255, Cf.exo k, Cf.exo k])) (ps := [(0, .tmp 19), (1, .tmp 20), (2, .const (.int .u8 255)), (3, .tmp 21), (4, .tmp 22)]) rfl rfl rfl rfl rfl rfl (by unfold maxLen; omega) (fun w => bsl22_5_0_1_2_3_4 _ _ _ _ _ w) (fun A4 => ?_); refine E.OW.chunk 0 (E.HP.row 5 1 A4 (List.length ([Cf.exo k, Cf.exo k, 255, Cf.exo k, Cf.exo k])) 5 (E.u8s ([Cf.exo k, Cf.exo k, 255, Cf.exo k, Cf.exo k]))) rfl rfl ?_; refine E.OW.put 23 (.slice A4 (List.length ([Cf.exo k, Cf.exo k, 255, Cf.exo k, Cf.exo k])) 5) rfl rfl ?_
        refine E.OW.app_u8 (i := 1) Try.underlying22 in5 rfl rfl rfl rfl rfl rfl rfl rfl rfl (E.rdr (i := 0) rfl) ?_ (fun AN cN => ?_); (focus (simp; omega))
        refine E.OW.pure rfl rfl rfl (E.PV.fieldAddr fa28_0 rfl rfl) ?_
        refine E.OW.pure rfl rfl rfl (E.PV.fieldAddr fa24_2 rfl rfl) ?_
        refine E.OW.store (i := 2) in22.size rfl rfl rfl rfl rfl rfl rfl rfl rfl ?_
        refine E.OW.nil ?_
        refine E.blk_n ?_
        refine E.then_n ?_
        refine E.CW.region ?_
        refine E.OW.pure rfl rfl rfl (E.PV.move rfl rfl) ?_
        refine E.OW.pure rfl rfl rfl (E.PV.add_i64 rfl rfl rfl ?_) ?_; (focus (omega))
        refine E.OW.pure rfl rfl rfl (E.PV.assign rfl rfl) ?_
        refine E.OW.nil ?_
        refine E.then_nf ?_
        refine ⟨_, [(2, _)], [1, 0, 1, 1], _, ?_, by repeat (first | exact E.cov_nil | refine ⟨rfl, ?_⟩), rfl, k + 1, AN, cN, rfl, rfl, by rw [← Cf.exl_step (show k < 4 by omega)], by omega⟩
        omega)
    · simp only [E.b0, E.b1, E.b2, E.b3, E.b4, E.b5, E.b6, E.b7, E.b8, E.b9, E.b10, E.b11, E.b12, E.b13, E.b14, E.b15, E.b16, E.b17, E.b18, E.b19, E.b20, reduceCtorEq] at hc
      all_goals (
        refine E.CW.exit ?_
        refine E.then_x ?_
        refine E.then_x ?_
        refine E.blk_eq ?_
        refine E.then_n ?_
        refine E.CW.seq ?_
        refine E.CW.seq ?_
        have hk4 : k = 4 := by omega
        refine E.CW.nilrow 79 8 ?_
        refine E.CW.tmsnil ?_
        refine E.CW.region ?_
        refine E.OW.pure rfl rfl rfl (E.PV.assign rfl rfl) ?_
        refine E.OW.nil ?_
        refine E.then_n ?_
        refine E.CW.block ?_
        refine E.CW.sels [0, 2, 0, 0, 0, 0] rfl ?_
        refine E.CW.loopk [0, 1] 3 rfl rfl (fun mm mods Hm => ∃ k2 : Nat, ∃ D2 : Option Addr, ∃ q2 : Nat, ∃ tt : List E.Tm, mm = 2 - k2 ∧ mods = [(4, .int .i64 k2)] ∧ Hm = [E.HP.tms tt, E.HP.blk BX 28 [.int .i64 5, .int .i64 4, .slice D (Cf.exl.take (5 * k)).length q, .slice AS (List.length Cf.exs) 6, .slice D2 tt.length q2, .int .u64 0], E.HP.row 79 8 D2 tt.length q2 (E.tms tt)] ∧ (k2 ≤ 2 ∧ tt.length = k2 ∧ tt.map (·.q) = Cf.ex.ts.take k2)) (2) ?_ ?_
        · exact ⟨[(4, _)], (by repeat (first | exact E.cov_nil | refine ⟨rfl, ?_⟩)), 0, none, 0, [], rfl, rfl, rfl, by omega, rfl, rfl⟩
        · rintro _ _ _ ⟨k2, D2, q2, tt, rfl, rfl, rfl, hk2, htl, htq⟩
          refine E.CW.seq ?_
          refine E.CW.seq ?_
          refine E.CW.region ?_
          refine E.OW.pure rfl rfl rfl (E.PV.move rfl rfl) ?_
          refine E.OW.pure rfl rfl rfl (E.PV.lss rfl rfl rfl) ?_
          refine E.OW.nil ?_
          refine E.then_n ?_
          refine E.CW.cond rfl (fun hc => ?_) (fun hc => ?_)
          · simp only [E.b0, E.b1, E.b2, E.b3, E.b4, E.b5, E.b6, E.b7, E.b8, E.b9, E.b10, E.b11, E.b12, E.b13, E.b14, E.b15, E.b16, E.b17, E.b18, E.b19, E.b20, reduceCtorEq] at hc
            all_goals (
              refine E.CW.skip ?_
              refine E.then_n ?_
              refine E.CW.seq ?_
              refine E.CW.block ?_
              refine E.CW.region ?_
              refine E.OW.pure rfl rfl rfl (E.PV.fieldAddr fa28_2 rfl rfl) ?_
              refine E.OW.pure rfl rfl rfl (E.PV.load (i := 1) na25 rfl rfl rfl rfl) ?_
              refine E.OW.pure rfl rfl rfl (E.PV.move rfl rfl) ?_
              refine E.OW.pure rfl rfl rfl (E.PV.mul_i64 rfl rfl rfl ?_) ?_; (focus (omega))
              refine E.OW.buildSlice (Et := 3) (sz := 1) (ps := [(0, .tmp 34)]) rfl rfl rfl rfl rfl (by simp) (by unfold maxLen; omega) (fun w => bsl31_1_0 _ w) (fun AI1 => ?_)
              refine E.OW.pure rfl rfl rfl (E.PV.move rfl rfl) ?_
              refine E.OW.pure rfl rfl rfl (E.PV.mul_i64 rfl rfl rfl ?_) ?_; (focus (omega))
              refine E.OW.pure rfl rfl rfl (E.PV.add_i64 rfl rfl rfl ?_) ?_; (focus (omega))
              refine E.OW.buildSlice (Et := 3) (sz := 1) (ps := [(0, .tmp 38)]) rfl rfl rfl rfl rfl (by simp) (by unfold maxLen; omega) (fun w => bsl31_1_0 _ w) (fun AI2 => ?_)
              refine E.OW.pure rfl rfl rfl (E.PV.move rfl rfl) ?_
              refine E.OW.pure rfl rfl rfl (E.PV.mul_i64 rfl rfl rfl ?_) ?_; (focus (omega))
              refine E.OW.pure rfl rfl rfl (E.PV.add_i64 rfl rfl rfl ?_) ?_; (focus (omega))
              refine E.OW.buildSlice (Et := 3) (sz := 1) (ps := [(0, .tmp 42)]) rfl rfl rfl rfl rfl (by simp) (by unfold maxLen; omega) (fun w => bsl31_1_0 _ w) (fun AI3 => ?_)
              refine E.OW.pure rfl rfl rfl (E.PV.build (ps := [(0, .tmp 35), (1, .tmp 39), (2, .tmp 43), (3, .const (.int .i64 1)), (4, .const (.int .i64 1)), (5, .const (.int .i64 2)), (6, .const (.int .i64 2)), (7, .const (.int .i64 8))]) rfl rfl (fun w => bld79_0_1_2_3_4_5_6_7 _ _ _ _ _ _ _ _ _ _ _ _ _ _ w)) ?_
              refine E.OW.buildSlice (Et := 79) (sz := 8) (cs := E.tms [(⟨Cf.ext k2, AI1, AI2, AI3, 1, 1, 1⟩ : E.Tm)]) (ps := [(0, .tmp 44)]) rfl rfl rfl rfl rfl rfl (by unfold maxLen; omega) (fun w => bsl25_1_0 _ _ _ _ _ _ _ _ _ _ _ _ _ _ w) (fun AL => ?_)
              refine E.OW.app_tm (i := 5) (j := 0) Try.underlying25 in79 rfl rfl rfl rfl rfl rfl rfl rfl rfl rfl ?_ ?_ (fun AT cT => ?_); (focus (unfold maxLen; omega)); (focus (omega))
              refine E.OW.pure rfl rfl rfl (E.PV.fieldAddr fa28_2 rfl rfl) ?_
              refine E.OW.store (i := 5) in25.size rfl rfl rfl rfl rfl rfl rfl rfl rfl ?_
              refine E.OW.nil ?_
              refine E.blk_n ?_
              refine E.then_n ?_
              refine E.CW.gather [4, 3, 2, 0, 0, 0, 0, 0, 0] 3 rfl rfl ?_
              refine E.CW.chunk 0 (E.HP.tm (⟨Cf.ext k2, AI1, AI2, AI3, 1, 1, 1⟩ : E.Tm)) rfl rfl ?_
              refine E.CW.tmsnoc 0 2 rfl rfl ?_
              refine E.CW.region ?_
              refine E.OW.pure rfl rfl rfl (E.PV.move rfl rfl) ?_
              refine E.OW.pure rfl rfl rfl (E.PV.add_i64 rfl rfl rfl ?_) ?_; (focus (omega))
              refine E.OW.pure rfl rfl rfl (E.PV.assign rfl rfl) ?_
              refine E.OW.nil ?_
              refine E.then_nf ?_
              refine ⟨_, [(4, _)], [0, 0, 0, 0, 0, 0], _, ?_, by repeat (first | exact E.cov_nil | refine ⟨rfl, ?_⟩), rfl, k2 + 1, AT, cT, tt ++ [(⟨Cf.ext k2, AI1, AI2, AI3, 1, 1, 1⟩ : E.Tm)], rfl, rfl, rfl, by omega, by simp; omega, Cf.ext_step htq (by omega) rfl⟩
              omega)
          · simp only [E.b0, E.b1, E.b2, E.b3, E.b4, E.b5, E.b6, E.b7, E.b8, E.b9, E.b10, E.b11, E.b12, E.b13, E.b14, E.b15, E.b16, E.b17, E.b18, E.b19, E.b20, reduceCtorEq] at hc
            all_goals (
              refine E.CW.exit ?_
              refine E.then_x ?_
              refine E.then_x ?_
              refine E.blk_eq ?_
              refine E.then_n ?_
              refine E.CW.seq ?_
              have hk2 : k2 = 2 := by omega
              refine E.CW.gather [3, 3, 2, 0, 0, 0] 4 rfl rfl ?_
              refine E.CW.region ?_
              refine E.OW.pure rfl rfl rfl (E.PV.loads (i := 1) is28 rfl rfl rfl rfl) ?_
              refine E.OW.store (i := 2) in28.size rfl rfl rfl rfl rfl rfl rfl rfl rfl ?_
              refine E.OW.nil ?_
              refine E.then_n ?_
              refine E.CW.ret ?_
              refine E.KR.rv1 [1] Try.results110 (E.rv.cell is28 rfl (E.sli 0 rfl) rfl) rfl ?_
              subst hk4 hk2
              refine ⟨⟨5, 4, (Cf.exl.take (5 * 4)), Cf.exs, tt, 0, D, q, AS, 6, D2, q2⟩, rfl, rfl, ?_⟩
              simp only [E.Cfg.q]
              rw [htq]
              rfl))
end Go.Proofs.Ytflkbabhbnmajaa

/- Routes, plainly: no program in sight. -/
namespace Go.Proofs.Ytflkbabhbnmajaa
namespace Rt
open Cf
/-- the owner of a place, a wall's if it is no place. -/
def owner (g : C) (p : Int) : Int := if (Fl.owner g.a g.b g.l p).2 = 0 then (Fl.owner g.a g.b g.l p).1 else -1
def asked (g : C) (t tick : Int) : Int := if check g = 0 then (if present g.ts t = true ∧ tick ≤ 4611686018427389952 then 0 else 2) else check g
def allows (g : C) (t p tick : Int) : Bool :=
  if owner g p = t then true else if owner g p = -2 then (decide ((Fl.sliceOwner g.s tick).2 = 0) && decide ((Fl.sliceOwner g.s tick).1 = t)) else false
def onLeg (g : C) (t a b : Int) : Bool := decide (owner g b = t) && (decide (owner g a = t) || decide (owner g a = -2))
def legE (g : C) (t a b tick : Int) : Int := if asked g t tick = 0 then (if onLeg g t a b then 0 else 2) else asked g t tick
def on (g : C) (p : Int) : Bool := decide (0 ≤ p) && decide (p < g.l.length)
def allowed (g : C) (t p tick : Int) : Bool × Int := if asked g t tick = 0 then (if on g p then (allows g t p tick, 0) else (false, 2)) else (false, asked g t tick)
theorem asked_bad {g : C} {t tick : Int} (h : ¬ check g = 0) : asked g t tick = check g := by simp [asked, h]
theorem asked_ok {g : C} {t tick : Int} (h : check g = 0) (hp : present g.ts t = true) (ht : tick ≤ 4611686018427389952) : asked g t tick = 0 := by simp [asked, h, hp, ht]
theorem asked_arg {g : C} {t tick : Int} (h : check g = 0) (hp : present g.ts t = false ∨ ¬ tick ≤ 4611686018427389952) : asked g t tick = 2 := by
  unfold asked
  rw [if_pos h, if_neg (fun h2 => by rcases hp with hp | hp <;> simp_all)]
theorem ad_bad {g : C} {t p tick : Int} (h : ¬ asked g t tick = 0) : allowed g t p tick = (false, asked g t tick) := if_neg h
theorem ad_off {g : C} {t p tick : Int} (h : asked g t tick = 0) (hp : ¬ (0 ≤ p ∧ p < (g.l.length : Int))) : allowed g t p tick = (false, 2) :=
  (if_pos h).trans (if_neg (by simpa [on] using hp))
theorem ad_on {g : C} {t p tick : Int} (h : asked g t tick = 0) (hp : 0 ≤ p ∧ p < (g.l.length : Int)) : allowed g t p tick = (allows g t p tick, 0) :=
  (if_pos h).trans (if_pos (by simpa [on] using hp))
theorem al_yes {g : C} {t p tick : Int} (h1 : ¬ owner g p = t) (h2 : owner g p = -2) (h3 : (Fl.sliceOwner g.s tick).2 = 0) : allows g t p tick = decide ((Fl.sliceOwner g.s tick).1 = t) := by
  unfold allows
  rw [if_neg h1, if_pos h2, decide_eq_true h3, Bool.true_and]
theorem al_no {g : C} {t p tick : Int} (h1 : ¬ owner g p = t) (h2 : owner g p = -2) (h3 : ¬ (Fl.sliceOwner g.s tick).2 = 0) : allows g t p tick = false := by
  unfold allows
  rw [if_neg h1, if_pos h2, decide_eq_false h3, Bool.false_and]
theorem on_ge {g : C} {p : Int} (h : 0 ≤ p) : on g p = decide (p < (g.l.length : Int)) := by unfold on; rw [decide_eq_true h, Bool.true_and]
theorem on_lt {g : C} {p : Int} (h : p < 0) : on g p = false := by unfold on; rw [decide_eq_false (by omega), Bool.false_and]
def pe (ts : List T) (t : Int) : Int := if t < 0 ∨ (ts.length : Int) ≤ t then 2 else 0
theorem pe_bad {ts : List T} {t : Int} (h : ¬ pe ts t = 0) : present ts t = false := by
  unfold pe at h
  split at h
  · unfold present
    rename_i h1
    rcases h1 with h1 | h1
    · rw [decide_eq_false (show ¬ 0 ≤ t by omega)]; rfl
    · rw [decide_eq_false (show ¬ t < (ts.length : Int) by omega), Bool.and_false]; rfl
  · exact absurd rfl h
theorem pres {g : C} {t : Int} (h : check g = 0) : presence g t = (present g.ts t, pe g.ts t) := by
  unfold presence
  rw [if_pos h]
  by_cases h1 : t < 0 ∨ (g.ts.length : Int) ≤ t
  · have : pe g.ts t = 2 := if_pos h1
    rw [if_pos h1, pe_bad (by rw [this]; decide), this]
  · rw [if_neg h1, show pe g.ts t = 0 from if_neg h1]
end Rt
end Go.Proofs.Ytflkbabhbnmajaa

/- Closed facts on the program (printed by gen.py). -/
namespace Go.Proofs.Ytflkbabhbnmajaa
open Go Go.RowKit
set_option linter.unusedSimpArgs false
set_option linter.unusedVariables false
theorem fa30_0 : E.FA Try.prog 30 0 0 := fun _ _ _ => by kernel_rfl
theorem fa30_1 : E.FA Try.prog 30 1 1 := fun _ _ _ => by kernel_rfl
theorem nm102 : E.Nm Try.prog 102 := ⟨Try.f102, Try.func102, rfl, by kernel_rfl⟩
theorem nm105 : E.Nm Try.prog 105 := ⟨Try.f105, Try.func105, rfl, by kernel_rfl⟩
theorem nm127 : E.Nm Try.prog 127 := ⟨Try.f127, Try.func127, rfl, by kernel_rfl⟩
theorem nm41 : E.Nm Try.prog 41 := ⟨Try.f41, Try.func41, rfl, by kernel_rfl⟩
theorem nm66 : E.Nm Try.prog 66 := ⟨Try.f66, Try.func66, rfl, by kernel_rfl⟩
theorem nm75 : E.Nm Try.prog 75 := ⟨Try.f75, Try.func75, rfl, by kernel_rfl⟩
theorem nm99 : E.Nm Try.prog 99 := ⟨Try.f99, Try.func99, rfl, by kernel_rfl⟩
end Go.Proofs.Ytflkbabhbnmajaa

/- Walks (printed by gen.py). -/
namespace Go.Proofs.Ytflkbabhbnmajaa
open Go Go.RowKit
set_option linter.unusedSimpArgs false
set_option linter.unusedVariables false

set_option maxRecDepth 100000 in
theorem Ow_ok (g : E.Cfg) (p : Int) (w0 : World) (hg : g.rd w0 (E.Old w0)) (hgf : g.q.fit) :
    Calls Try.prog 99 #[g.v, .int .i64 p] w0 (E.Post w0 (E.Old w0) fun v Hn => v = .int .i64 (Rt.owner g.q p) ∧ Hn = []) := by
  obtain ⟨hX1, hX2, hX3, hX4⟩ := id hg
  have hgl := E.Cfg.fit_len hgf
  refine E.calls_of (vs := [g.v, .int .i64 p]) (H := []) Try.func99 Try.ntmps99 rfl rfl (E.HA.start w0) ?_
  refine E.CW.seq ?_
  refine E.CW.region ?_
  refine E.OW.box rfl rfl rfl rfl rfl rfl (fun B1 => ?_)
  refine E.OW.pure rfl rfl rfl (E.PV.assign rfl rfl) ?_
  refine E.OW.nil ?_
  refine E.then_n ?_
  refine E.CW.seq ?_
  refine E.CW.region ?_
  refine E.OW.pure rfl rfl rfl (E.PV.fieldAddr fa28_0 rfl rfl) ?_
  refine E.OW.pure rfl rfl rfl (E.PV.loads (i := 0) is24 rfl rfl rfl rfl) ?_
  refine E.OW.pure rfl rfl rfl (E.PV.move rfl rfl) ?_
  (refine E.OW.call nm41 rfl rfl rfl rfl rfl rfl _ (fun w hw => Owner_ok _ _ _ _ g.l p w ?_ ?_) ?_; (focus (omega)); (focus (refine hw.rd ?_; assumption)); rintro _ _ ⟨rfl, rfl⟩)
  refine E.OW.pure rfl rfl rfl (E.PV.move rfl rfl) ?_
  refine E.OW.pure rfl rfl rfl (E.PV.extract rfl rfl rfl) ?_
  refine E.OW.pure rfl rfl rfl (E.PV.extract rfl rfl rfl) ?_
  refine E.OW.pure rfl rfl rfl (E.PV.assign rfl rfl) ?_
  refine E.OW.pure rfl rfl rfl (E.PV.assign rfl rfl) ?_
  refine E.OW.nil ?_
  refine E.then_n ?_
  refine E.CW.seq ?_
  refine E.CW.seq ?_
  refine E.CW.region ?_
  refine E.OW.pure rfl rfl rfl (E.PV.move rfl rfl) ?_
  refine E.OW.pure rfl rfl rfl (E.PV.neq rfl rfl rfl) ?_
  refine E.OW.nil ?_
  refine E.then_n ?_
  refine E.CW.cond rfl (fun hc => ?_) (fun hc => ?_)
  · simp only [E.b0, E.b1, E.b2, E.b3, E.b4, E.b5, E.b6, E.b7, E.b8, E.b9, E.b10, E.b11, E.b12, E.b13, E.b14, E.b15, E.b16, E.b17, E.b18, E.b19, E.b20, reduceCtorEq] at hc
    all_goals (
      refine E.CW.seq ?_
      refine E.CW.region ?_
      refine E.OW.pure rfl rfl rfl (E.PV.assign rfl rfl) ?_
      refine E.OW.nil ?_
      refine E.then_n ?_
      refine E.CW.ret ?_
      refine E.then_ret ?_
      refine E.KR.one [] Try.results99 rfl rfl ?_
      exact ⟨(congrArg (Value.int .i64) (show Rt.owner g.q p = -1 from if_neg (show ¬ (Fl.owner g.a g.b g.l p).2 = 0 by assumption))).symm, rfl⟩)
  · simp only [E.b0, E.b1, E.b2, E.b3, E.b4, E.b5, E.b6, E.b7, E.b8, E.b9, E.b10, E.b11, E.b12, E.b13, E.b14, E.b15, E.b16, E.b17, E.b18, E.b19, E.b20, reduceCtorEq] at hc
    all_goals (
      refine E.CW.skip ?_
      refine E.then_n ?_
      refine E.CW.seq ?_
      refine E.CW.region ?_
      refine E.OW.pure rfl rfl rfl (E.PV.move rfl rfl) ?_
      refine E.OW.pure rfl rfl rfl (E.PV.assign rfl rfl) ?_
      refine E.OW.nil ?_
      refine E.then_n ?_
      refine E.CW.ret ?_
      refine E.KR.one [] Try.results99 rfl rfl ?_
      exact ⟨(congrArg (Value.int .i64) (show Rt.owner g.q p = (Fl.owner g.a g.b g.l p).1 from if_pos (show (Fl.owner g.a g.b g.l p).2 = 0 by assumption))).symm, rfl⟩)

theorem PnV_ok (g : E.Cfg) (t : Int) (w0 : World) (hg : g.rd w0 (E.Old w0)) (hgf : g.q.fit) (hcz : Cf.check g.q = 0) :
    Calls Try.prog 105 #[g.v, .int .i64 t] w0 (E.Post w0 (E.Old w0) fun v Hn => v = .tuple #[.bool (Cf.present g.q.ts t), .int .i64 (Rt.pe g.q.ts t)] ∧ Hn = []) := by
  have h := Pn_ok g t w0 hg hgf
  rw [Rt.pres hcz] at h
  exact h

set_option maxRecDepth 100000 in
theorem Ask_ok (g : E.Cfg) (t tick : Int) (w0 : World) (hg : g.rd w0 (E.Old w0)) (hgf : g.q.fit) (ht : 0 ≤ tick ∧ tick < 18446744073709551616) :
    Calls Try.prog 66 #[g.v, .int .i64 t, .int .u64 tick] w0 (E.Post w0 (E.Old w0) fun v Hn => v = .int .i64 (Rt.asked g.q t tick) ∧ Hn = []) := by
  obtain ⟨hX1, hX2, hX3, hX4⟩ := id hg
  have hgl := E.Cfg.fit_len hgf
  refine E.calls_of (vs := [g.v, .int .i64 t, .int .u64 tick]) (H := []) Try.func66 Try.ntmps66 rfl rfl (E.HA.start w0) ?_
  refine E.CW.seq ?_
  refine E.CW.region ?_
  refine E.OW.box rfl rfl rfl rfl rfl rfl (fun B1 => ?_)
  refine E.OW.pure rfl rfl rfl (E.PV.assign rfl rfl) ?_
  refine E.OW.nil ?_
  refine E.then_n ?_
  refine E.CW.seq ?_
  refine E.CW.seq ?_
  refine E.CW.region ?_
  refine E.OW.pure rfl rfl rfl (E.PV.loads (i := 0) is28 rfl rfl rfl rfl) ?_
  (refine E.OW.call nm87 rfl rfl rfl rfl rfl rfl _ (fun w hw => Ck_ok g w ?_ ?_) ?_; (focus (refine hw.rdC ?_; assumption)); (focus (assumption)); rintro _ _ ⟨rfl, rfl⟩)
  refine E.OW.pure rfl rfl rfl (E.PV.assign rfl rfl) ?_
  refine E.OW.nil ?_
  refine E.then_n ?_
  refine E.CW.seq ?_
  refine E.CW.region ?_
  refine E.OW.pure rfl rfl rfl (E.PV.move rfl rfl) ?_
  refine E.OW.pure rfl rfl rfl (E.PV.neq rfl rfl rfl) ?_
  refine E.OW.nil ?_
  refine E.then_n ?_
  refine E.CW.cond rfl (fun hc => ?_) (fun hc => ?_)
  · simp only [E.b0, E.b1, E.b2, E.b3, E.b4, E.b5, E.b6, E.b7, E.b8, E.b9, E.b10, E.b11, E.b12, E.b13, E.b14, E.b15, E.b16, E.b17, E.b18, E.b19, E.b20, reduceCtorEq] at hc
    all_goals (
      refine E.CW.seq ?_
      refine E.CW.region ?_
      refine E.OW.pure rfl rfl rfl (E.PV.move rfl rfl) ?_
      refine E.OW.pure rfl rfl rfl (E.PV.assign rfl rfl) ?_
      refine E.OW.nil ?_
      refine E.then_n ?_
      refine E.CW.ret ?_
      refine E.then_ret ?_
      refine E.KR.one [] Try.results66 rfl rfl ?_
      exact ⟨by rw [Rt.asked_bad (by assumption)], rfl⟩)
  · simp only [E.b0, E.b1, E.b2, E.b3, E.b4, E.b5, E.b6, E.b7, E.b8, E.b9, E.b10, E.b11, E.b12, E.b13, E.b14, E.b15, E.b16, E.b17, E.b18, E.b19, E.b20, reduceCtorEq] at hc
    all_goals (
      refine E.CW.skip ?_
      refine E.then_n ?_
      refine E.CW.seq ?_
      refine E.CW.seq ?_
      have hcz : Cf.check g.q = 0 := by assumption
      refine E.CW.region ?_
      refine E.OW.pure rfl rfl rfl (E.PV.loads (i := 0) is28 rfl rfl rfl rfl) ?_
      refine E.OW.pure rfl rfl rfl (E.PV.move rfl rfl) ?_
      (refine E.OW.call nm105 rfl rfl rfl rfl rfl rfl _ (fun w hw => PnV_ok g t w ?_ ?_ hcz) ?_; (focus (refine hw.rdC ?_; assumption)); (focus (assumption)); rintro _ _ ⟨rfl, rfl⟩)
      refine E.OW.pure rfl rfl rfl (E.PV.move rfl rfl) ?_
      refine E.OW.pure rfl rfl rfl (E.PV.extract rfl rfl rfl) ?_
      refine E.OW.pure rfl rfl rfl (E.PV.extract rfl rfl rfl) ?_
      refine E.OW.pure rfl rfl rfl (E.PV.assign rfl rfl) ?_
      refine E.OW.pure rfl rfl rfl (E.PV.assign rfl rfl) ?_
      refine E.OW.nil ?_
      refine E.then_n ?_
      refine E.CW.seq ?_
      refine E.CW.region ?_
      refine E.OW.pure rfl rfl rfl (E.PV.move rfl rfl) ?_
      refine E.OW.pure rfl rfl rfl (E.PV.neq rfl rfl rfl) ?_
      refine E.OW.pure rfl rfl rfl (E.PV.move rfl rfl) ?_
      all_goals (refine E.OW.split 23 rfl (fun hc => ?_) (fun hc => ?_) <;> (try simp only [E.b0, E.b1, E.b2, E.b3, E.b4, E.b5, E.b6, E.b7, E.b8, E.b9, E.b10, E.b11, E.b12, E.b13, E.b14, E.b15, E.b16, E.b17, E.b18, E.b19, E.b20, reduceCtorEq] at hc) <;> (try (exfalso; first | assumption | contradiction | omega)))
      all_goals (first | (refine E.OW.off rfl rfl rfl ?_) | (refine E.OW.pure rfl rfl rfl (E.PV.move rfl rfl) ?_))
      all_goals (first | (refine E.OW.off rfl rfl rfl ?_) | (refine E.OW.pure rfl rfl rfl (E.PV.not rfl rfl) ?_))
      all_goals (first | (refine E.OW.pure rfl rfl rfl (E.PV.pick_t rfl rfl rfl) ?_) | (refine E.OW.pure rfl rfl rfl (E.PV.pick_f rfl rfl rfl) ?_))
      all_goals (refine E.OW.pure rfl rfl rfl (E.PV.move rfl rfl) ?_)
      all_goals (first | (refine E.OW.put 27 (.bool true) (v := .bool true) rfl rfl ?_) | (refine E.OW.split 27 rfl (fun hc => ?_) (fun hc => ?_) <;> (try simp only [E.b0, E.b1, E.b2, E.b3, E.b4, E.b5, E.b6, E.b7, E.b8, E.b9, E.b10, E.b11, E.b12, E.b13, E.b14, E.b15, E.b16, E.b17, E.b18, E.b19, E.b20, reduceCtorEq] at hc) <;> (try (exfalso; first | assumption | contradiction | omega))))
      all_goals (first | (refine E.OW.off rfl rfl rfl ?_) | (refine E.OW.pure rfl rfl rfl (E.PV.move rfl rfl) ?_))
      all_goals (first | (refine E.OW.off rfl rfl rfl ?_) | (refine E.OW.pure rfl rfl rfl (E.PV.gtr rfl rfl rfl) ?_))
      all_goals (first | (refine E.OW.pure rfl rfl rfl (E.PV.pick_t rfl rfl rfl) ?_) | (refine E.OW.pure rfl rfl rfl (E.PV.pick_f rfl rfl rfl) ?_))
      all_goals (
        refine E.OW.nil ?_
        refine E.then_n ?_
        refine E.CW.cond rfl (fun hc => ?_) (fun hc => ?_)
        · simp only [E.b0, E.b1, E.b2, E.b3, E.b4, E.b5, E.b6, E.b7, E.b8, E.b9, E.b10, E.b11, E.b12, E.b13, E.b14, E.b15, E.b16, E.b17, E.b18, E.b19, E.b20, reduceCtorEq] at hc
          all_goals (
            refine E.CW.seq ?_
            refine E.CW.region ?_
            refine E.OW.pure rfl rfl rfl (E.PV.assign rfl rfl) ?_
            refine E.OW.nil ?_
            refine E.then_n ?_
            refine E.CW.ret ?_
            refine E.then_ret ?_
            refine E.KR.one [] Try.results66 rfl rfl ?_
            exact ⟨by rw [Rt.asked_arg hcz (by first | (left; assumption) | (left; exact Rt.pe_bad (by assumption)) | (right; omega))], rfl⟩)
        · first | ((cases hc; done)) | (simp only [E.b0, E.b1, E.b2, E.b3, E.b4, E.b5, E.b6, E.b7, E.b8, E.b9, E.b10, E.b11, E.b12, E.b13, E.b14, E.b15, E.b16, E.b17, E.b18, E.b19, E.b20, reduceCtorEq] at hc)
          all_goals (
            refine E.CW.skip ?_
            refine E.then_n ?_
            refine E.CW.seq ?_
            refine E.CW.region ?_
            refine E.OW.pure rfl rfl rfl (E.PV.assign rfl rfl) ?_
            refine E.OW.nil ?_
            refine E.then_n ?_
            refine E.CW.ret ?_
            refine E.KR.one [] Try.results66 rfl rfl ?_
            exact ⟨by rw [Rt.asked_ok hcz (by assumption) (by omega)], rfl⟩)))

set_option maxRecDepth 100000 in
theorem Al_ok (g : E.Cfg) (t p tick : Int) (w0 : World) (hg : g.rd w0 (E.Old w0)) (hgf : g.q.fit) (ht : 0 ≤ tick ∧ tick < 18446744073709551616) :
    Calls Try.prog 75 #[g.v, .int .i64 t, .int .i64 p, .int .u64 tick] w0 (E.Post w0 (E.Old w0) fun v Hn => v = .bool (Rt.allows g.q t p tick) ∧ Hn = []) := by
  obtain ⟨hX1, hX2, hX3, hX4⟩ := id hg
  have hgl := E.Cfg.fit_len hgf
  refine E.calls_of (vs := [g.v, .int .i64 t, .int .i64 p, .int .u64 tick]) (H := []) Try.func75 Try.ntmps75 rfl rfl (E.HA.start w0) ?_
  refine E.CW.seq ?_
  refine E.CW.region ?_
  refine E.OW.box rfl rfl rfl rfl rfl rfl (fun B1 => ?_)
  refine E.OW.pure rfl rfl rfl (E.PV.assign rfl rfl) ?_
  refine E.OW.nil ?_
  refine E.then_n ?_
  refine E.CW.seq ?_
  refine E.CW.seq ?_
  refine E.CW.region ?_
  refine E.OW.pure rfl rfl rfl (E.PV.loads (i := 0) is28 rfl rfl rfl rfl) ?_
  refine E.OW.pure rfl rfl rfl (E.PV.move rfl rfl) ?_
  (refine E.OW.call nm99 rfl rfl rfl rfl rfl rfl _ (fun w hw => Ow_ok g p w ?_ ?_) ?_; (focus (refine hw.rdC ?_; assumption)); (focus (assumption)); rintro _ _ ⟨rfl, rfl⟩)
  refine E.OW.pure rfl rfl rfl (E.PV.assign rfl rfl) ?_
  refine E.OW.nil ?_
  refine E.then_n ?_
  refine E.CW.seq ?_
  refine E.CW.region ?_
  refine E.OW.pure rfl rfl rfl (E.PV.move rfl rfl) ?_
  refine E.OW.nil ?_
  refine E.then_n ?_
  refine E.CW.block ?_
  refine E.CW.seq ?_
  refine E.CW.region ?_
  refine E.OW.pure rfl rfl rfl (E.PV.move rfl rfl) ?_
  refine E.OW.pure rfl rfl rfl (E.PV.eql rfl rfl rfl) ?_
  refine E.OW.pure rfl rfl rfl (E.PV.assign rfl rfl) ?_
  refine E.OW.nil ?_
  refine E.then_n ?_
  refine E.CW.cond rfl (fun hc => ?_) (fun hc => ?_)
  · simp only [E.b0, E.b1, E.b2, E.b3, E.b4, E.b5, E.b6, E.b7, E.b8, E.b9, E.b10, E.b11, E.b12, E.b13, E.b14, E.b15, E.b16, E.b17, E.b18, E.b19, E.b20, reduceCtorEq] at hc
    all_goals (
      refine E.CW.seq ?_
      refine E.CW.region ?_
      refine E.OW.pure rfl rfl rfl (E.PV.assign rfl rfl) ?_
      refine E.OW.nil ?_
      refine E.then_n ?_
      refine E.CW.ret ?_
      refine E.blk_ret ?_
      refine E.then_ret ?_
      refine E.KR.one [] Try.results75 rfl rfl ?_
      exact ⟨(congrArg (Value.bool) (show Rt.allows g.q t p tick = true from if_pos (by assumption))).symm, rfl⟩)
  · simp only [E.b0, E.b1, E.b2, E.b3, E.b4, E.b5, E.b6, E.b7, E.b8, E.b9, E.b10, E.b11, E.b12, E.b13, E.b14, E.b15, E.b16, E.b17, E.b18, E.b19, E.b20, reduceCtorEq] at hc
    all_goals (
      refine E.CW.seq ?_
      refine E.CW.region ?_
      refine E.OW.pure rfl rfl rfl (E.PV.eql rfl rfl rfl) ?_
      refine E.OW.pure rfl rfl rfl (E.PV.assign rfl rfl) ?_
      refine E.OW.nil ?_
      refine E.then_n ?_
      refine E.CW.cond rfl (fun hc => ?_) (fun hc => ?_)
      · simp only [E.b0, E.b1, E.b2, E.b3, E.b4, E.b5, E.b6, E.b7, E.b8, E.b9, E.b10, E.b11, E.b12, E.b13, E.b14, E.b15, E.b16, E.b17, E.b18, E.b19, E.b20, reduceCtorEq] at hc
        all_goals (
          refine E.CW.seq ?_
          refine E.CW.region ?_
          refine E.OW.pure rfl rfl rfl (E.PV.fieldAddr fa28_1 rfl rfl) ?_
          refine E.OW.pure rfl rfl rfl (E.PV.load (i := 0) na22 rfl rfl rfl rfl) ?_
          refine E.OW.pure rfl rfl rfl (E.PV.move rfl rfl) ?_
          (refine E.OW.call nm102 rfl rfl rfl rfl rfl rfl _ (fun w hw => SliceOwner_ok _ _ g.s tick ?_ w ?_ ?_) ?_; (focus (assumption)); (focus (omega)); (focus (refine hw.rd ?_; assumption)); rintro _ _ ⟨rfl, rfl⟩)
          refine E.OW.pure rfl rfl rfl (E.PV.move rfl rfl) ?_
          refine E.OW.pure rfl rfl rfl (E.PV.extract rfl rfl rfl) ?_
          refine E.OW.pure rfl rfl rfl (E.PV.extract rfl rfl rfl) ?_
          refine E.OW.pure rfl rfl rfl (E.PV.assign rfl rfl) ?_
          refine E.OW.pure rfl rfl rfl (E.PV.assign rfl rfl) ?_
          refine E.OW.nil ?_
          refine E.then_n ?_
          refine E.CW.seq ?_
          refine E.CW.region ?_
          refine E.OW.pure rfl rfl rfl (E.PV.move rfl rfl) ?_
          refine E.OW.pure rfl rfl rfl (E.PV.eql rfl rfl rfl) ?_
          refine E.OW.pure rfl rfl rfl (E.PV.move rfl rfl) ?_
          all_goals (refine E.OW.split 30 rfl (fun hc => ?_) (fun hc => ?_) <;> (try simp only [E.b0, E.b1, E.b2, E.b3, E.b4, E.b5, E.b6, E.b7, E.b8, E.b9, E.b10, E.b11, E.b12, E.b13, E.b14, E.b15, E.b16, E.b17, E.b18, E.b19, E.b20, reduceCtorEq] at hc) <;> (try (exfalso; first | assumption | contradiction | omega)))
          all_goals (first | (refine E.OW.off rfl rfl rfl ?_) | (refine E.OW.pure rfl rfl rfl (E.PV.move rfl rfl) ?_))
          all_goals (first | (refine E.OW.off rfl rfl rfl ?_) | (refine E.OW.pure rfl rfl rfl (E.PV.move rfl rfl) ?_))
          all_goals (first | (refine E.OW.off rfl rfl rfl ?_) | (refine E.OW.pure rfl rfl rfl (E.PV.eql rfl rfl rfl) ?_))
          all_goals (first | (refine E.OW.pure rfl rfl rfl (E.PV.pick_t rfl rfl rfl) ?_) | (refine E.OW.pure rfl rfl rfl (E.PV.pick_f rfl rfl rfl) ?_))
          all_goals (refine E.OW.pure rfl rfl rfl (E.PV.assign rfl rfl) ?_)
          all_goals (
            refine E.OW.nil ?_
            refine E.then_n ?_
            refine E.CW.ret ?_
            refine E.blk_ret ?_
            refine E.then_ret ?_
            refine E.KR.one [] Try.results75 rfl rfl ?_
            exact ⟨congrArg Value.bool (by first | exact (Rt.al_yes (by assumption) (by assumption) (by assumption)).symm | exact (Rt.al_no (by assumption) (by assumption) (by assumption)).symm), rfl⟩))
      · simp only [E.b0, E.b1, E.b2, E.b3, E.b4, E.b5, E.b6, E.b7, E.b8, E.b9, E.b10, E.b11, E.b12, E.b13, E.b14, E.b15, E.b16, E.b17, E.b18, E.b19, E.b20, reduceCtorEq] at hc
        all_goals (
          refine E.CW.skip ?_
          refine E.blk_n ?_
          refine E.then_n ?_
          refine E.CW.seq ?_
          refine E.CW.region ?_
          refine E.OW.pure rfl rfl rfl (E.PV.assign rfl rfl) ?_
          refine E.OW.nil ?_
          refine E.then_n ?_
          refine E.CW.ret ?_
          refine E.KR.one [] Try.results75 rfl rfl ?_
          exact ⟨(congrArg (Value.bool) (show Rt.allows g.q t p tick = false from (if_neg (by assumption)).trans (if_neg (by assumption)))).symm, rfl⟩))

set_option maxRecDepth 100000 in
theorem Le_ok (g : E.Cfg) (t a b tick : Int) (w0 : World) (hg : g.rd w0 (E.Old w0)) (hgf : g.q.fit) (ht : 0 ≤ tick ∧ tick < 18446744073709551616) :
    Calls Try.prog 58 #[g.v, .int .i64 t, .agg #[.int .i64 a, .int .i64 b], .int .u64 tick] w0 (E.Post w0 (E.Old w0) fun v Hn => v = .int .i64 (Rt.legE g.q t a b tick) ∧ Hn = []) := by
  obtain ⟨hX1, hX2, hX3, hX4⟩ := id hg
  have hgl := E.Cfg.fit_len hgf
  refine E.calls_of (vs := [g.v, .int .i64 t, .agg #[.int .i64 a, .int .i64 b], .int .u64 tick]) (H := []) Try.func58 Try.ntmps58 rfl rfl (E.HA.start w0) ?_
  refine E.CW.seq ?_
  refine E.CW.region ?_
  refine E.OW.box rfl rfl rfl rfl rfl rfl (fun B1 => ?_)
  refine E.OW.box rfl rfl rfl rfl rfl rfl (fun B2 => ?_)
  refine E.OW.pure rfl rfl rfl (E.PV.assign rfl rfl) ?_
  refine E.OW.nil ?_
  refine E.then_n ?_
  refine E.CW.seq ?_
  refine E.CW.seq ?_
  refine E.CW.region ?_
  refine E.OW.pure rfl rfl rfl (E.PV.loads (i := 1) is28 rfl rfl rfl rfl) ?_
  refine E.OW.pure rfl rfl rfl (E.PV.move rfl rfl) ?_
  refine E.OW.pure rfl rfl rfl (E.PV.move rfl rfl) ?_
  (refine E.OW.call nm66 rfl rfl rfl rfl rfl rfl _ (fun w hw => Ask_ok g t tick w ?_ ?_ ?_) ?_; (focus (refine hw.rdC ?_; assumption)); (focus (assumption)); (focus (assumption)); rintro _ _ ⟨rfl, rfl⟩)
  refine E.OW.pure rfl rfl rfl (E.PV.assign rfl rfl) ?_
  refine E.OW.nil ?_
  refine E.then_n ?_
  refine E.CW.seq ?_
  refine E.CW.region ?_
  refine E.OW.pure rfl rfl rfl (E.PV.move rfl rfl) ?_
  refine E.OW.pure rfl rfl rfl (E.PV.neq rfl rfl rfl) ?_
  refine E.OW.nil ?_
  refine E.then_n ?_
  refine E.CW.cond rfl (fun hc => ?_) (fun hc => ?_)
  · simp only [E.b0, E.b1, E.b2, E.b3, E.b4, E.b5, E.b6, E.b7, E.b8, E.b9, E.b10, E.b11, E.b12, E.b13, E.b14, E.b15, E.b16, E.b17, E.b18, E.b19, E.b20, reduceCtorEq] at hc
    all_goals (
      refine E.CW.seq ?_
      refine E.CW.region ?_
      refine E.OW.pure rfl rfl rfl (E.PV.move rfl rfl) ?_
      refine E.OW.pure rfl rfl rfl (E.PV.assign rfl rfl) ?_
      refine E.OW.nil ?_
      refine E.then_n ?_
      refine E.CW.ret ?_
      refine E.then_ret ?_
      refine E.KR.one [] Try.results58 rfl rfl ?_
      exact ⟨(congrArg (Value.int .i64) (show Rt.legE g.q t a b tick = Rt.asked g.q t tick from if_neg (by assumption))).symm, rfl⟩)
  · simp only [E.b0, E.b1, E.b2, E.b3, E.b4, E.b5, E.b6, E.b7, E.b8, E.b9, E.b10, E.b11, E.b12, E.b13, E.b14, E.b15, E.b16, E.b17, E.b18, E.b19, E.b20, reduceCtorEq] at hc
    all_goals (
      refine E.CW.skip ?_
      refine E.then_n ?_
      refine E.CW.seq ?_
      have haz : Rt.asked g.q t tick = 0 := by assumption
      refine E.CW.region ?_
      refine E.OW.pure rfl rfl rfl (E.PV.loads (i := 1) is28 rfl rfl rfl rfl) ?_
      refine E.OW.pure rfl rfl rfl (E.PV.fieldAddr fa30_0 rfl rfl) ?_
      refine E.OW.pure rfl rfl rfl (E.PV.load (i := 0) na3 rfl rfl rfl rfl) ?_
      (refine E.OW.call nm99 rfl rfl rfl rfl rfl rfl _ (fun w hw => Ow_ok g a w ?_ ?_) ?_; (focus (refine hw.rdC ?_; assumption)); (focus (assumption)); rintro _ _ ⟨rfl, rfl⟩)
      refine E.OW.pure rfl rfl rfl (E.PV.assign rfl rfl) ?_
      refine E.OW.nil ?_
      refine E.then_n ?_
      refine E.CW.seq ?_
      refine E.CW.seq ?_
      refine E.CW.region ?_
      refine E.OW.pure rfl rfl rfl (E.PV.loads (i := 1) is28 rfl rfl rfl rfl) ?_
      refine E.OW.pure rfl rfl rfl (E.PV.fieldAddr fa30_1 rfl rfl) ?_
      refine E.OW.pure rfl rfl rfl (E.PV.load (i := 0) na3 rfl rfl rfl rfl) ?_
      (refine E.OW.call nm99 rfl rfl rfl rfl rfl rfl _ (fun w hw => Ow_ok g b w ?_ ?_) ?_; (focus (refine hw.rdC ?_; assumption)); (focus (assumption)); rintro _ _ ⟨rfl, rfl⟩)
      refine E.OW.pure rfl rfl rfl (E.PV.move rfl rfl) ?_
      refine E.OW.pure rfl rfl rfl (E.PV.neq rfl rfl rfl) ?_
      refine E.OW.pure rfl rfl rfl (E.PV.move rfl rfl) ?_
      all_goals (refine E.OW.split 28 rfl (fun hc => ?_) (fun hc => ?_) <;> (try simp only [E.b0, E.b1, E.b2, E.b3, E.b4, E.b5, E.b6, E.b7, E.b8, E.b9, E.b10, E.b11, E.b12, E.b13, E.b14, E.b15, E.b16, E.b17, E.b18, E.b19, E.b20, reduceCtorEq] at hc) <;> (try (exfalso; first | assumption | contradiction | omega)))
      all_goals (first | (refine E.OW.off rfl rfl rfl ?_) | (refine E.OW.pure rfl rfl rfl (E.PV.move rfl rfl) ?_))
      all_goals (first | (refine E.OW.off rfl rfl rfl ?_) | (refine E.OW.pure rfl rfl rfl (E.PV.move rfl rfl) ?_))
      all_goals (first | (refine E.OW.off rfl rfl rfl ?_) | (refine E.OW.pure rfl rfl rfl (E.PV.neq rfl rfl rfl) ?_))
      all_goals (first | (refine E.OW.off rfl rfl rfl ?_) | (refine E.OW.pure rfl rfl rfl (E.PV.move rfl rfl) ?_))
      all_goals (first | (refine E.OW.put 32 (.tuple #[]) (v := .tuple #[]) rfl rfl ?_) | (refine E.OW.split 32 rfl (fun hc => ?_) (fun hc => ?_) <;> (try simp only [E.b0, E.b1, E.b2, E.b3, E.b4, E.b5, E.b6, E.b7, E.b8, E.b9, E.b10, E.b11, E.b12, E.b13, E.b14, E.b15, E.b16, E.b17, E.b18, E.b19, E.b20, reduceCtorEq] at hc) <;> (try (exfalso; first | assumption | contradiction | omega))))
      all_goals (first | (refine E.OW.off rfl rfl rfl ?_) | (refine E.OW.pure rfl rfl rfl (E.PV.move rfl rfl) ?_))
      all_goals (first | (refine E.OW.off rfl rfl rfl ?_) | (refine E.OW.pure rfl rfl rfl (E.PV.neq rfl rfl rfl) ?_))
      all_goals (first | (refine E.OW.off rfl rfl rfl ?_) | (first | (refine E.OW.pure rfl rfl rfl (E.PV.pick_t rfl rfl rfl) ?_) | (refine E.OW.pure rfl rfl rfl (E.PV.pick_f rfl rfl rfl) ?_)))
      all_goals (first | (refine E.OW.pure rfl rfl rfl (E.PV.pick_t rfl rfl rfl) ?_) | (refine E.OW.pure rfl rfl rfl (E.PV.pick_f rfl rfl rfl) ?_))
      all_goals (
        refine E.OW.nil ?_
        refine E.then_n ?_
        refine E.CW.cond rfl (fun hc => ?_) (fun hc => ?_)
        · first | ((cases hc; done)) | (simp only [E.b0, E.b1, E.b2, E.b3, E.b4, E.b5, E.b6, E.b7, E.b8, E.b9, E.b10, E.b11, E.b12, E.b13, E.b14, E.b15, E.b16, E.b17, E.b18, E.b19, E.b20, reduceCtorEq] at hc)
          all_goals (
            refine E.CW.seq ?_
            refine E.CW.region ?_
            refine E.OW.pure rfl rfl rfl (E.PV.assign rfl rfl) ?_
            refine E.OW.nil ?_
            refine E.then_n ?_
            refine E.CW.ret ?_
            refine E.then_ret ?_
            refine E.KR.one [] Try.results58 rfl rfl ?_
            exact ⟨(congrArg (Value.int .i64) (show Rt.legE g.q t a b tick = 2 from (if_pos haz).trans (if_neg (by simp [Rt.onLeg, *])))).symm, rfl⟩)
        · first | ((cases hc; done)) | (simp only [E.b0, E.b1, E.b2, E.b3, E.b4, E.b5, E.b6, E.b7, E.b8, E.b9, E.b10, E.b11, E.b12, E.b13, E.b14, E.b15, E.b16, E.b17, E.b18, E.b19, E.b20, reduceCtorEq] at hc)
          all_goals (
            refine E.CW.skip ?_
            refine E.then_n ?_
            refine E.CW.seq ?_
            refine E.CW.region ?_
            refine E.OW.pure rfl rfl rfl (E.PV.assign rfl rfl) ?_
            refine E.OW.nil ?_
            refine E.then_n ?_
            refine E.CW.ret ?_
            refine E.KR.one [] Try.results58 rfl rfl ?_
            exact ⟨(congrArg (Value.int .i64) (show Rt.legE g.q t a b tick = 0 from (if_pos haz).trans (if_pos (by simp [Rt.onLeg, *])))).symm, rfl⟩)))

set_option maxRecDepth 100000 in
theorem Ad_ok (g : E.Cfg) (t p tick : Int) (w0 : World) (hg : g.rd w0 (E.Old w0)) (hgf : g.q.fit) (ht : 0 ≤ tick ∧ tick < 18446744073709551616) :
    Calls Try.prog 31 #[g.v, .int .i64 t, .int .i64 p, .int .u64 tick] w0 (E.Post w0 (E.Old w0) fun v Hn => v = .tuple #[.bool (Rt.allowed g.q t p tick).1, .int .i64 (Rt.allowed g.q t p tick).2] ∧ Hn = []) := by
  obtain ⟨hX1, hX2, hX3, hX4⟩ := id hg
  have hgl := E.Cfg.fit_len hgf
  refine E.calls_of (vs := [g.v, .int .i64 t, .int .i64 p, .int .u64 tick]) (H := []) Try.func31 Try.ntmps31 rfl rfl (E.HA.start w0) ?_
  refine E.CW.seq ?_
  refine E.CW.region ?_
  refine E.OW.box rfl rfl rfl rfl rfl rfl (fun B1 => ?_)
  refine E.OW.pure rfl rfl rfl (E.PV.assign rfl rfl) ?_
  refine E.OW.pure rfl rfl rfl (E.PV.assign rfl rfl) ?_
  refine E.OW.nil ?_
  refine E.then_n ?_
  refine E.CW.seq ?_
  refine E.CW.seq ?_
  refine E.CW.region ?_
  refine E.OW.pure rfl rfl rfl (E.PV.loads (i := 0) is28 rfl rfl rfl rfl) ?_
  refine E.OW.pure rfl rfl rfl (E.PV.move rfl rfl) ?_
  refine E.OW.pure rfl rfl rfl (E.PV.move rfl rfl) ?_
  (refine E.OW.call nm66 rfl rfl rfl rfl rfl rfl _ (fun w hw => Ask_ok g t tick w ?_ ?_ ?_) ?_; (focus (refine hw.rdC ?_; assumption)); (focus (assumption)); (focus (assumption)); rintro _ _ ⟨rfl, rfl⟩)
  refine E.OW.pure rfl rfl rfl (E.PV.assign rfl rfl) ?_
  refine E.OW.nil ?_
  refine E.then_n ?_
  refine E.CW.seq ?_
  refine E.CW.region ?_
  refine E.OW.pure rfl rfl rfl (E.PV.move rfl rfl) ?_
  refine E.OW.pure rfl rfl rfl (E.PV.neq rfl rfl rfl) ?_
  refine E.OW.nil ?_
  refine E.then_n ?_
  refine E.CW.cond rfl (fun hc => ?_) (fun hc => ?_)
  · simp only [E.b0, E.b1, E.b2, E.b3, E.b4, E.b5, E.b6, E.b7, E.b8, E.b9, E.b10, E.b11, E.b12, E.b13, E.b14, E.b15, E.b16, E.b17, E.b18, E.b19, E.b20, reduceCtorEq] at hc
    all_goals (
      refine E.CW.seq ?_
      refine E.CW.region ?_
      refine E.OW.pure rfl rfl rfl (E.PV.move rfl rfl) ?_
      refine E.OW.pure rfl rfl rfl (E.PV.assign rfl rfl) ?_
      refine E.OW.pure rfl rfl rfl (E.PV.assign rfl rfl) ?_
      refine E.OW.nil ?_
      refine E.then_n ?_
      refine E.CW.ret ?_
      refine E.then_ret ?_
      refine E.KR.two [] Try.results31 rfl rfl rfl ?_
      exact ⟨by rw [Rt.ad_bad (by assumption)], rfl⟩)
  · simp only [E.b0, E.b1, E.b2, E.b3, E.b4, E.b5, E.b6, E.b7, E.b8, E.b9, E.b10, E.b11, E.b12, E.b13, E.b14, E.b15, E.b16, E.b17, E.b18, E.b19, E.b20, reduceCtorEq] at hc
    all_goals (
      refine E.CW.skip ?_
      refine E.then_n ?_
      refine E.CW.seq ?_
      refine E.CW.seq ?_
      have haz : Rt.asked g.q t tick = 0 := by assumption
      refine E.CW.region ?_
      refine E.OW.pure rfl rfl rfl (E.PV.move rfl rfl) ?_
      refine E.OW.pure rfl rfl rfl (E.PV.lss rfl rfl rfl) ?_
      refine E.OW.pure rfl rfl rfl (E.PV.move rfl rfl) ?_
      all_goals (refine E.OW.split 20 rfl (fun hc => ?_) (fun hc => ?_) <;> (try simp only [E.b0, E.b1, E.b2, E.b3, E.b4, E.b5, E.b6, E.b7, E.b8, E.b9, E.b10, E.b11, E.b12, E.b13, E.b14, E.b15, E.b16, E.b17, E.b18, E.b19, E.b20, reduceCtorEq] at hc) <;> (try (exfalso; first | assumption | contradiction | omega)))
      all_goals (first | (refine E.OW.off rfl rfl rfl ?_) | (refine E.OW.pure rfl rfl rfl (E.PV.move rfl rfl) ?_))
      all_goals (first | (refine E.OW.off rfl rfl rfl ?_) | (refine E.OW.pure rfl rfl rfl (E.PV.fieldAddr fa28_0 rfl rfl) ?_))
      all_goals (first | (refine E.OW.off rfl rfl rfl ?_) | (refine E.OW.pure rfl rfl rfl (E.PV.fieldAddr fa24_2 rfl rfl) ?_))
      all_goals (first | (refine E.OW.off rfl rfl rfl ?_) | (refine E.OW.pure rfl rfl rfl (E.PV.load (i := 0) na22 rfl rfl rfl rfl) ?_))
      all_goals (first | (refine E.OW.off rfl rfl rfl ?_) | (refine E.OW.pure rfl rfl rfl (E.PV.len Try.underlying22 rfl rfl) ?_))
      all_goals (first | (refine E.OW.off rfl rfl rfl ?_) | (refine E.OW.pure rfl rfl rfl (E.PV.geq rfl rfl rfl) ?_))
      all_goals (first | (refine E.OW.pure rfl rfl rfl (E.PV.pick_t rfl rfl rfl) ?_) | (refine E.OW.pure rfl rfl rfl (E.PV.pick_f rfl rfl rfl) ?_))
      all_goals (
        refine E.OW.nil ?_
        refine E.then_n ?_
        refine E.CW.cond rfl (fun hc => ?_) (fun hc => ?_)
        · simp only [E.b0, E.b1, E.b2, E.b3, E.b4, E.b5, E.b6, E.b7, E.b8, E.b9, E.b10, E.b11, E.b12, E.b13, E.b14, E.b15, E.b16, E.b17, E.b18, E.b19, E.b20, reduceCtorEq] at hc
          all_goals (
            refine E.CW.seq ?_
            refine E.CW.region ?_
            refine E.OW.pure rfl rfl rfl (E.PV.assign rfl rfl) ?_
            refine E.OW.pure rfl rfl rfl (E.PV.assign rfl rfl) ?_
            refine E.OW.nil ?_
            refine E.then_n ?_
            refine E.CW.ret ?_
            refine E.then_ret ?_
            refine E.KR.two [] Try.results31 rfl rfl rfl ?_
            exact ⟨by rw [Rt.ad_off haz (by show ¬ (0 ≤ p ∧ p < (g.l.length : Int)); omega)], rfl⟩)
        · first | ((cases hc; done)) | (simp only [E.b0, E.b1, E.b2, E.b3, E.b4, E.b5, E.b6, E.b7, E.b8, E.b9, E.b10, E.b11, E.b12, E.b13, E.b14, E.b15, E.b16, E.b17, E.b18, E.b19, E.b20, reduceCtorEq] at hc)
          all_goals (
            refine E.CW.skip ?_
            refine E.then_n ?_
            refine E.CW.seq ?_
            refine E.CW.region ?_
            refine E.OW.pure rfl rfl rfl (E.PV.loads (i := 0) is28 rfl rfl rfl rfl) ?_
            refine E.OW.pure rfl rfl rfl (E.PV.move rfl rfl) ?_
            refine E.OW.pure rfl rfl rfl (E.PV.move rfl rfl) ?_
            refine E.OW.pure rfl rfl rfl (E.PV.move rfl rfl) ?_
            (refine E.OW.call nm75 rfl rfl rfl rfl rfl rfl _ (fun w hw => Al_ok g t p tick w ?_ ?_ ?_) ?_; (focus (refine hw.rdC ?_; assumption)); (focus (assumption)); (focus (assumption)); rintro _ _ ⟨rfl, rfl⟩)
            refine E.OW.pure rfl rfl rfl (E.PV.assign rfl rfl) ?_
            refine E.OW.pure rfl rfl rfl (E.PV.assign rfl rfl) ?_
            refine E.OW.nil ?_
            refine E.then_n ?_
            refine E.CW.ret ?_
            refine E.KR.two [] Try.results31 rfl rfl rfl ?_
            exact ⟨by rw [Rt.ad_on haz (by show 0 ≤ p ∧ p < (g.l.length : Int); omega)], rfl⟩)))

set_option maxRecDepth 100000 in
theorem rOn_ok (g : E.Cfg) (p : Int) (w0 : World) (hg : g.rd w0 (E.Old w0)) (hgf : g.q.fit) :
    Calls Try.prog 62 #[g.v, .int .i64 p] w0 (E.Post w0 (E.Old w0) fun v Hn => v = .bool (Rt.on g.q p) ∧ Hn = []) := by
  obtain ⟨hX1, hX2, hX3, hX4⟩ := id hg
  have hgl := E.Cfg.fit_len hgf
  refine E.calls_of (vs := [g.v, .int .i64 p]) (H := []) Try.func62 Try.ntmps62 rfl rfl (E.HA.start w0) ?_
  refine E.CW.seq ?_
  refine E.CW.region ?_
  refine E.OW.box rfl rfl rfl rfl rfl rfl (fun B1 => ?_)
  refine E.OW.pure rfl rfl rfl (E.PV.assign rfl rfl) ?_
  refine E.OW.nil ?_
  refine E.then_n ?_
  refine E.CW.seq ?_
  refine E.CW.region ?_
  refine E.OW.pure rfl rfl rfl (E.PV.move rfl rfl) ?_
  refine E.OW.pure rfl rfl rfl (E.PV.geq rfl rfl rfl) ?_
  refine E.OW.pure rfl rfl rfl (E.PV.move rfl rfl) ?_
  all_goals (refine E.OW.split 7 rfl (fun hc => ?_) (fun hc => ?_) <;> (try simp only [E.b0, E.b1, E.b2, E.b3, E.b4, E.b5, E.b6, E.b7, E.b8, E.b9, E.b10, E.b11, E.b12, E.b13, E.b14, E.b15, E.b16, E.b17, E.b18, E.b19, E.b20, reduceCtorEq] at hc) <;> (try (exfalso; first | assumption | contradiction | omega)))
  all_goals (first | (refine E.OW.off rfl rfl rfl ?_) | (refine E.OW.pure rfl rfl rfl (E.PV.move rfl rfl) ?_))
  all_goals (first | (refine E.OW.off rfl rfl rfl ?_) | (refine E.OW.pure rfl rfl rfl (E.PV.fieldAddr fa28_0 rfl rfl) ?_))
  all_goals (first | (refine E.OW.off rfl rfl rfl ?_) | (refine E.OW.pure rfl rfl rfl (E.PV.fieldAddr fa24_2 rfl rfl) ?_))
  all_goals (first | (refine E.OW.off rfl rfl rfl ?_) | (refine E.OW.pure rfl rfl rfl (E.PV.load (i := 0) na22 rfl rfl rfl rfl) ?_))
  all_goals (first | (refine E.OW.off rfl rfl rfl ?_) | (refine E.OW.pure rfl rfl rfl (E.PV.len Try.underlying22 rfl rfl) ?_))
  all_goals (first | (refine E.OW.off rfl rfl rfl ?_) | (refine E.OW.pure rfl rfl rfl (E.PV.lss rfl rfl rfl) ?_))
  all_goals (first | (refine E.OW.pure rfl rfl rfl (E.PV.pick_t rfl rfl rfl) ?_) | (refine E.OW.pure rfl rfl rfl (E.PV.pick_f rfl rfl rfl) ?_))
  all_goals (refine E.OW.pure rfl rfl rfl (E.PV.assign rfl rfl) ?_)
  all_goals (
    refine E.OW.nil ?_
    refine E.then_n ?_
    refine E.CW.ret ?_
    refine E.KR.one [] Try.results62 rfl rfl ?_
    exact ⟨congrArg Value.bool (by first | exact (Rt.on_ge (g := g.q) (p := p) (by assumption)).symm | exact (Rt.on_lt (g := g.q) (p := p) (by omega)).symm), rfl⟩)
end Go.Proofs.Ytflkbabhbnmajaa

/- A range over a function: the statement's law and yield's, over the chunks; a function that holds marks. -/
set_option linter.unusedSimpArgs false
set_option linter.unusedVariables false
namespace Go.Proofs.Ytflkbabhbnmajaa
namespace E
open Go Go.RowKit

/-- one block with this object. -/
def HP.obj (B : Nat) (o : Obj) : HP := ⟨fun S w => (∀ k, S k ↔ k = B) ∧ w.heap[B]? = some o, fun S w w' h hb => ⟨hb.1, by rw [h B ((hb.1 B).2 rfl)]; exact hb.2⟩⟩
/-- the blocks behind a frame's marks. -/
def HP.marks : List Nat → HP
  | ds => HP.bag (ds.map fun d => HP.obj d (.deferred (some [])))

section
variable {P : Program} {n : Fr} {w0 : World} {F : Nat → Prop} {K : Kt} {l : Env} {H : List HP} {o : Oper}

theorem HA.focus {p : HP} {A : List HP} {w : World} (h : HA w0 F (p :: A) w) :
    ∃ S : Nat → Prop, p.sem S w ∧ (∀ k, S k → k < w.heap.size ∧ ¬ F k) ∧ Chunks w (fun k => F k ∨ S k) A ∧ HA w (fun k => k < w.heap.size ∧ ¬ S k) [p] w ∧
      ∀ B w', HA w (fun k => k < w.heap.size ∧ ¬ S k) B w' → HA w0 F (B ++ A) w' := by
  obtain ⟨S, h1, h2, h3⟩ := h.chunks
  refine ⟨S, h1, h2, h3, ⟨rfl, rfl, rfl, Nat.le_refl _, fun _ hk => hk.1, fun _ _ => rfl, S, h1, fun k hk => ⟨(h2 k hk).1, fun hn => hn.2 hk⟩, trivial⟩, fun B w' hw' => ?_⟩
  have hF : ∀ k, F k → k < w.heap.size ∧ ¬ S k := fun k hf => ⟨Nat.lt_of_lt_of_le (h.flt k hf) h.size, fun hs => (h2 k hs).2 hf⟩
  refine ⟨hw'.os.trans h.os, hw'.tape.trans h.tape, hw'.output.trans h.output, Nat.le_trans h.size hw'.size, h.flt, fun k hf => (hw'.kept k (hF k hf)).trans (h.kept k hf), ?_⟩
  refine Chunks.app (G := fun k => k < w.heap.size ∧ ¬ S k) ?_ ?_
  · exact hw'.chunks.congr fun k => ⟨.inr, fun hk' => hk'.elim (hF k) id⟩
  · exact ChunksB.of (w := w) hw'.size (fun k hk' => hw'.kept k hk') (U := fun k => F k ∨ S k) (fun k hlt hn => ⟨hlt, fun hs => hn (.inr hs)⟩) (fun k hf => .inl hf) h3

/-- an object's block is turned. -/
theorem HA.putObj {B : Nat} {o o' : Obj} {w : World} (h : HA w0 F (HP.obj B o :: H) w) : HA w0 F (HP.obj B o' :: H) (w.putObj B o') := by
  refine HA.write (Hn := [HP.obj B o']) h fun S hs hb => ?_
  have hlt : B < w.heap.size := (hb B ((hs.1 B).2 rfl)).1
  refine ⟨rfl, rfl, rfl, by simp [World.putObj], fun k hk hn => World.putObj_heap_other fun e => hn ((hs.1 k).2 e), S, ⟨hs.1, World.putObj_heap_same hlt⟩, fun k hk => ⟨by simpa [World.putObj] using (hb k hk).1, fun hn => hn.2 hk⟩, trivial⟩

theorem HA.at_obj {B : Nat} {o : Obj} {w : World} (h : HA w0 F (HP.obj B o :: H) w) : w.heap[B]? = some o := by
  obtain ⟨S, h1, _⟩ := h.chunks
  exact h1.2

theorem HA.newObj {w : World} (o : Obj) (h : HA w0 F H w) : HA w0 F (HP.obj w.heap.size o :: H) (w.alloc o) := by
  refine HA.make (Hn := [HP.obj w.heap.size o]) h rfl rfl rfl (by rw [World.size_alloc]; omega) (fun k hk => ?_) ⟨fun k => k = w.heap.size, ⟨fun _ => Iff.rfl, World.alloc_heap_new w o⟩, fun k hk => ⟨by subst hk; rw [World.size_alloc]; omega, fun ho => ?_⟩, trivial⟩
  · exact Below.heap_alloc _ _ _ (by omega)
  · omega

/-! ### yield -/
/-- the loop L takes xs, one by one: p pre is what it looks like when pre has been taken. -/
def YF (P : Program) (L : Nat) (p : List Int → HP) (xs : List Int) : Prop :=
  ∀ pre x rest (w : World) (S : Nat → Prop), xs = pre ++ x :: rest → (p pre).sem S w → (∀ k, S k → k < w.heap.size) →
    YieldAt Fence.wide 0 P L #[.int .i64 x] w fun e w' => e = .returned (.bool true) ∧ HA w (fun k => k < w.heap.size ∧ ¬ S k) [p (pre ++ [x])] w'

theorem OW.yield {ops : Array Oper} {rest : List Oper} {d L : Nat} {fo xo : Operand} {ts : Array TypeId} {p : List Int → HP} {xs pre post : List Int} {x : Int} {H' : List HP}
    (hg : gd ops l o.guard = some true) (hd : o.dst = some d) (hn : Nat.blt d n.sz = true) (ho : o.op = .call { callee := .value fo, args := #[xo], argTypes := ts })
    (hfo : ev l fo = some (.func (.yield L) #[] #[])) (hx : ev l xo = some (.int .i64 x)) (hY : YF P L p xs) (i : Nat) (hi : sel H i = some (p pre, H')) (hxs : xs = pre ++ x :: post)
    (k : OW P n w0 F ops K rest ((d, .bool true) :: l) (p (pre ++ [x]) :: H')) : OW P n w0 F ops K (o :: rest) l H := fun a w ha hw => by
  refine wpListIn_step fun K' hK' => ?_
  rw [if_pos (ha.wanted hg)]
  have hw1 := hw.perm (sel_perm hi)
  obtain ⟨S, h1, h2, h3, h4, h5⟩ := hw1.focus
  obtain ⟨f, tmps, assign, body, hy, hr⟩ := hY pre x post w S hxs h1 fun k hk => (h2 k hk).1
  have hrun : (execOp a.eval o).run P w = .ok (.round L f tmps assign body) w := by
    simp [execOp, ho, resolve, Deferred.ofValue, invoke, Sem.run_bind, ha.ev hfo, ha.ev hx, hy]
  refine ⟨fun _ _ => trivial, ?_⟩
  rw [semAt_run hrun (by simp)]
  refine ⟨(fun h => by cases h), RoundIn.mono hr fun e w' he => ?_⟩
  obtain ⟨rfl, hw'⟩ := he
  show K' (a.put o.dst (.bool true)) w'
  rw [hd]
  exact hK' _ _ (k _ _ (ha.put hn _) (h5 _ _ hw'))

/-! ### The statement -/
theorem Ag.mark {a : Act} (ha : Ag n l a) (hm : n.mm = true) {ds : List Nat} (hds : lk l 9999 = some (marks ds)) (D : Nat) :
    Ag n ((9999, marks (D :: ds)) :: l) { a with defers := [{ target := .collected D, args := #[] }] ++ a.defers } := by
  refine ⟨ha.size, ha.small, fun h => by rw [hm] at h; (cases h), fun t v hv => ?_⟩
  simp only [lk] at hv
  cases hb : Nat.beq 9999 t with
  | true =>
    rw [hb] at hv
    simp only [cond_true, Option.some.injEq] at hv
    have := Nat.eq_of_beq_eq_true hb
    subst this
    subst hv
    show ∃ es, _ ∧ _
    exact ⟨D :: ds, rfl, by have := ha.mks hds; unfold Marked at this ⊢; simp [this]⟩
  | false =>
    rw [hb] at hv
    have h1 := ha.at_ t v hv
    have hne : Nat.beq t 9999 = false := by
      cases h : Nat.beq t 9999 with
      | true => have := Nat.eq_of_beq_eq_true h; subst this; simp at hb
      | false => rfl
    unfold At at h1 ⊢
    rw [hne] at h1 ⊢
    exact h1

theorem CW.range {g : Operand} {t : Nat} {assign body : Code} {gf : Nat} {caps : List Value} {p : List Int → HP} {xs : List Int} {ds : List Nat} {lb : Env} {H1 H2 : List HP}
    (ks : List Nat) (hk : pick l ks = some lb) (hno : lk lb 9999 = none) (hm : n.mm = true) (hr : n.rd = none) (ht : Nat.blt t n.sz = true)
    (hf : Nm P gf) (hg : ev l g = some (.func (.func gf) #[] caps.toArray)) (hds : lk l 9999 = some (marks ds))
    (i j : Nat) (hi : sel H i = some (p [], H1)) (hj : sel H1 j = some (HP.marks ds, H2))
    (it : ∀ w S L q, HA w0 F H2 w → YF P L q xs → (q []).sem S w → (∀ k, S k → k < w.heap.size ∧ ¬ F k) → Chunks w (fun k => F k ∨ S k) H2 →
      Calls P gf ((.func (.yield L) #[] #[] :: caps).toArray) w (Post w (fun k => k < w.heap.size ∧ ¬ S k) fun _ Hn => Hn = [q xs]))
    (hb : ∀ L pre x rest, xs = pre ++ x :: rest → ∃ l1,
      (∀ W F', CW P ⟨n.sz, some L, false⟩ W F' assign (fun e l' H' => e = .normal ∧ Cov l' l1 ∧ H' = [p pre]) ((t, .int .i64 x) :: lb) [p pre]) ∧
      (∀ W F', CW P ⟨n.sz, some L, false⟩ W F' body (fun e l' H' => e = .normal ∧ ∃ is, E.sels H' is = some [p (pre ++ [x])]) l1 [p pre]))
    (k : ∀ D, K .normal ((9999, marks (D :: ds)) :: l) (HP.marks (D :: ds) :: p xs :: H2)) : CW P n w0 F (.rangeFunc g #[t] assign body) K l H := fun a w ha hw => by
  refine wpIn_rangeFunc fun fn hfn => ?_
  obtain ⟨rec, hrec⟩ : ∃ rec : LoopState → Loop, rec = fun st => { state := st, pending := none, fn, tmps := a.tmps, params := #[t], assign, body, defers := w.heap.size } := ⟨_, rfl⟩
  obtain ⟨W1, hW1⟩ : ∃ W1, (w.alloc (.deferred (some []))).alloc (.loop (rec .ready)) = W1 := ⟨_, rfl⟩
  obtain ⟨q, hq⟩ : ∃ q : List Int → HP, q = fun pre => HP.bag [HP.obj (w.heap.size + 1) (.loop (rec .ready)), p pre] := ⟨_, rfl⟩
  have hsz : (w.alloc (.deferred (some []))).heap.size = w.heap.size + 1 := by rw [World.size_alloc]
  have hA : HA w0 F (HP.obj (w.heap.size + 1) (.loop (rec .ready)) :: HP.obj w.heap.size (.deferred (some [])) :: H) W1 := by
    rw [← hW1, ← hsz]; exact (hw.newObj _).newObj _
  have hperm : HA w0 F (q [] :: HP.obj w.heap.size (.deferred (some [])) :: HP.marks ds :: H2) W1 := by
    have h1 : HA w0 F (HP.obj (w.heap.size + 1) (.loop (rec .ready)) :: p [] :: HP.obj w.heap.size (.deferred (some [])) :: HP.marks ds :: H2) W1 := by
      refine hA.perm (List.Perm.cons _ ?_)
      refine ((((sel_perm hi).trans ((sel_perm hj).cons _)).cons _)).trans (List.Perm.swap _ _ _)
    rw [hq]
    exact { h1 with chunks := Chunks.gather (ps := [_, _]) h1.chunks }
  obtain ⟨S, h1, h2, h3, h4, h5⟩ := hperm.focus
  have hH2 : HA w0 F H2 W1 := hperm.drop.drop.drop
  have hy : YF P (w.heap.size + 1) q xs := by
    intro pre x rest v T hxs hs hlt
    have e0 : HA v (fun k => k < v.heap.size ∧ ¬ T k) [q pre] v := ⟨rfl, rfl, rfl, Nat.le_refl _, fun _ hk => hk.1, fun _ _ => rfl, T, hs, fun k hk => ⟨hlt k hk, fun hn => hn.2 hk⟩, trivial⟩
    rw [hq] at e0
    have e1 : HA v (fun k => k < v.heap.size ∧ ¬ T k) (HP.obj (w.heap.size + 1) (.loop (rec .ready)) :: p pre :: []) v := { e0 with chunks := by simpa using e0.chunks.open }
    have hl := e1.at_obj
    have hy := run_yield (P := P) (args := #[.int .i64 x]) hl (by rw [hrec]; rfl)
    rw [hrec] at hy
    refine ⟨fn, _, assign, body, hy, roundIn_of_wpIn hfn ?_⟩
    obtain ⟨l1, ha1, hb1⟩ := hb (w.heap.size + 1) pre x rest hxs
    have hag : Ag ⟨n.sz, some (w.heap.size + 1), false⟩ ((t, .int .i64 x) :: lb) { tmps := (#[t].zip #[Value.int .i64 x]).foldl (fun tm (t, a) => tm.setIfInBounds t a) a.tmps, defers := [] } := by
      have hag0 : Ag ⟨n.sz, some (w.heap.size + 1), false⟩ lb { tmps := a.tmps, defers := [] } := by
        refine ⟨ha.size, ha.small, fun _ => rfl, fun s v hv => ?_⟩
        have h1 := ha.at_ s v ((pick_cov hk).lk s v hv)
        unfold At at h1 ⊢
        cases hbs : Nat.beq s 9999 with
        | true => have := Nat.eq_of_beq_eq_true hbs; subst this; rw [hno] at hv; cases hv
        | false => rw [hbs] at h1; exact h1
      have := hag0.put (d := t) ht (.int .i64 x)
      simpa [Act.put] using this
    obtain ⟨T2, t1, t2, t3, t4, t5⟩ := (e1.perm (List.Perm.swap _ _ _)).focus
    refine wpIn_mono (ha1 _ _ _ _ hag t4) fun e a1 v1 ⟨l', H', g1, g2, g3, g4, g5⟩ => ?_
    subst g3
    subst g5
    have e2 := (t5 _ _ g2).perm (List.Perm.swap _ _ _)
    have hl2 := e2.at_obj
    refine ⟨_, run_beginRound hl2 (by rw [hrec]), ?_⟩
    have e3 := e2.putObj (o' := .loop { rec .ready with state := .busy })
    obtain ⟨T3, u1, u2, u3, u4, u5⟩ := (e3.perm (List.Perm.swap _ _ _)).focus
    refine wpIn_mono (hb1 _ _ _ _ (g1.cov g4) u4) fun e a2 v2 ⟨l2, H3, m1, m2, m3, is, m4⟩ => ?_
    subst m3
    have e4 := (u5 _ _ (m2.sels m4)).perm (List.Perm.swap _ _ _)
    have hl3 := e4.at_obj
    have hend := run_endRound (P := P) none hl3
    refine ⟨_, _, hend, rfl, ?_⟩
    have e5 := e4.putObj (o' := .loop { { rec .ready with state := .busy } with state := if (none : Option Code).isNone then .ready else .done, pending := none })
    rw [hq]
    have : (Obj.loop { { rec .ready with state := .busy } with state := if (none : Option Code).isNone then .ready else .done, pending := none }) = .loop (rec .ready) := by rw [hrec]; rfl
    rw [this] at e5 ⊢
    exact { e5 with chunks := Chunks.gather (ps := [_, _]) e5.chunks }
  refine ⟨w.heap.size + 1, [{ target := .collected w.heap.size, args := #[] }], W1, { target := .fn (.func gf) caps.toArray, args := #[.func (.yield (w.heap.size + 1)) #[] #[]] }, W1, gf,
    #[.func (.yield (w.heap.size + 1)) #[] #[]] ++ caps.toArray, W1, ?_, ?_, fun _ _ => trivial, ?_, (fun h => by cases h), ?_⟩
  · rw [← hW1, hrec]
    show (Instr.enterLoop fn a.tmps #[t] assign body n.rd).run P w = _
    rw [hr]; exact run_enterLoop_outer _ _ _ _ _
  · have hev := ha.ev hg
    simp only [resolve, hev]
    simp [go_sem]
  · obtain ⟨gn, f1, f2, f3⟩ := hf
    have hb : gn.body ≠ none := by intro h; rw [h] at f2; cases f2
    have hn : gn.name ≠ "runtime.NumGoroutine" := by simpa using f3
    simp [invoke, callFunc, program, Sem.run, f1, hn, hb]
  · have hc := it W1 S (w.heap.size + 1) q hH2 hy h1 h2 (by obtain ⟨_, _, _, _, _, _, h6⟩ := h3; exact h6.mono fun k hk => by rcases hk with hk | hk <;> simp [hk])
    have harr : (#[.func (.yield (w.heap.size + 1)) #[] #[]] ++ caps.toArray : Array Value) = (.func (.yield (w.heap.size + 1)) #[] #[] :: caps).toArray := by simp
    rw [harr]
    refine CallsIn.mono (fe_calls hc) fun e w3 ⟨v, Hn, he, hR, hw3⟩ => ?_
    subst he
    subst hR
    have e6 := h5 _ _ hw3
    rw [hq] at e6
    have e7 : HA w0 F (HP.obj (w.heap.size + 1) (.loop (rec .ready)) :: p xs :: HP.obj w.heap.size (.deferred (some [])) :: HP.marks ds :: H2) w3 := { e6 with chunks := by simpa using e6.chunks.open }
    have hl4 := e7.at_obj
    obtain ⟨o4, ho4⟩ : ∃ o4, o4 = Obj.loop { rec .ready with state := .exhausted } := ⟨_, rfl⟩
    have hend : (Instr.endLoop (w.heap.size + 1)).run P w3 = .ok none (w3.putObj (w.heap.size + 1) o4) := by
      have := run_endLoop (P := P) hl4 (by rw [hrec]; simp)
      rw [ho4, hrec]
      rw [hrec] at this
      exact this
    refine ⟨none, _, hend, ?_⟩
    have e8 := (e7.putObj (o' := o4)).drop
    refine ⟨_, _, ha.mark hm hds w.heap.size, ?_, k w.heap.size⟩
    have e9 := e8.perm ((List.Perm.swap _ _ _).trans ((List.Perm.swap _ _ _).cons _))
    exact { e9 with chunks := Chunks.bag_in e9.chunks }

/-! ### A function that holds marks -/
theorem leaves_marks {fn : Func} {R : Ending → World → Prop} {tmps : Array Value} {Hn : List HP} :
    ∀ (ds : List Nat) (w : World), HA w0 F (HP.marks ds :: Hn) w → (∀ w, HA w0 F Hn w → ∃ v, (results fn tmps).run P w = .ok v w ∧ R (.returned v) w) →
      LeavesInM Fence.wide 0 P fn tmps R (ds.map fun d => { target := .collected d, args := #[] }) .returning w := by
  intro ds
  induction ds with
  | nil =>
    intro w hw hR
    exact hR w hw.drop
  | cons d ds ih =>
    intro w hw hR
    have e1 : HA w0 F (HP.obj d (.deferred (some [])) :: HP.marks ds :: Hn) w := { hw with chunks := hw.chunks.bag_out }
    exact ⟨by simp, .inl ⟨d, _, rfl, run_takeDeferred e1.at_obj, ih _ (e1.putObj (o' := .deferred none)).drop hR⟩⟩

def KRM (P : Program) (fn : Func) (n : Fr) (w0 : World) (F : Nat → Prop) (R : Value → List HP → Prop) : Kt
  | .ret, l, H | .normal, l, H => ∃ v Hn is ds, lk l 9999 = some (marks ds) ∧ (∀ a w, Ag n l a → HA w0 F Hn w → (results fn a.tmps).run P w = .ok v w) ∧ sels H is = some (HP.marks ds :: Hn) ∧ R v Hn
  | _, _, _ => False

theorem calls_of_m {f : Nat} {fn : Func} {m : Nat} {c : Code} {vs : List Value} {R : Value → List HP → Prop}
    (hf : P.funcs[f]? = some fn) (hnt : fn.ntmps = m) (hb : fn.body = some c) (hs : Nat.ble vs.length m = true) (hw : HA w0 F H w0)
    (h : CW P ⟨m, none, true⟩ w0 F c (KRM P fn ⟨m, none, true⟩ w0 F R) ((9999, marks []) :: ini 0 vs) (HP.marks [] :: H)) (hsz : Nat.ble m 9999 = true := by rfl) : Calls P f vs.toArray w0 (Post w0 F R) := by
  subst hnt
  have hs' : vs.length ≤ fn.ntmps := Nat.le_of_ble_eq_true hs
  have hsz' : fn.ntmps ≤ 9999 := Nat.le_of_ble_eq_true hsz
  refine callsIn_wide.1 (callsIn_of_wp_marks (F := Fence.wide) (n := 0) hf hb trivial (wpIn_mono (h { tmps := vs.toArray ++ Array.replicate (fn.ntmps - vs.toArray.size) undef, defers := [] } w0 ⟨by simp; omega, hsz', (fun h => by cases h), fun t v ht => ?_⟩ { hw with chunks := hw.chunks.bag_nil }) fun e a w ⟨l, H', ha, hw', hk⟩ => ?_))
  · simp only [lk] at ht
    cases hb9 : Nat.beq 9999 t with
    | true =>
      rw [hb9] at ht
      have := Nat.eq_of_beq_eq_true hb9
      subst this
      simp only [cond_true, Option.some.injEq] at ht
      exact ⟨[], ht.symm, rfl⟩
    | false =>
      rw [hb9] at ht
      obtain ⟨_, h2⟩ := lk_ini vs 0 t v ht
      simp only [Nat.sub_zero] at h2
      have hlt : t < vs.length := by
        rcases Nat.lt_or_ge t vs.length with h | h
        · exact h
        · rw [List.getElem?_eq_none h] at h2; cases h2
      have hne : Nat.beq t 9999 = false := by
        cases hb : Nat.beq t 9999 with
        | true => have := Nat.eq_of_beq_eq_true hb; omega
        | false => rfl
      unfold At
      rw [hne, cond_false, Array.getElem?_append_left (by simpa using hlt)]
      simpa using h2
  · have fin : ∀ l H', Ag ⟨fn.ntmps, none, true⟩ l a → HA w0 F H' w → (∃ v Hn is ds, lk l 9999 = some (marks ds) ∧ (∀ a w, Ag ⟨fn.ntmps, none, true⟩ l a → HA w0 F Hn w → (results fn a.tmps).run P w = .ok v w) ∧ sels H' is = some (HP.marks ds :: Hn) ∧ R v Hn) →
        LeavesInM Fence.wide 0 P fn a.tmps (Post w0 F R) a.defers .returning w := by
      intro l H' ha hw' ⟨v, Hn, is, ds, h0, h1, h2, h3⟩
      have hd : a.defers = _ := ha.mks h0
      rw [hd]
      exact leaves_marks ds w (hw'.sels h2) fun w hw => ⟨v, h1 a w ha hw, v, Hn, rfl, h3, hw⟩
    cases e with
    | normal => exact fin l H' ha hw' hk
    | ret => exact fin l H' ha hw' hk
    | exit i => exact hk.elim
    | goto i => exact hk.elim
    | panic c => exact hk.elim
    | outgrown => exact hk.elim

theorem KRM.one {fn : Func} {R : Value → List HP → Prop} {Hn : List HP} {t : Nat} {v : Value} {ds : List Nat} (is : List Nat) (hds : lk l 9999 = some (marks ds)) (hr : fn.results = #[.tmp t]) (hv : lr l t = some v) (hs : sels H is = some (HP.marks ds :: Hn)) (hR : R v Hn) : KRM P fn n w0 F R .ret l H :=
  ⟨v, Hn, is, ds, hds, fun a w ha _ => by
    rw [results_tmp hr]
    have := ha.get t v hv
    simp [Array.getD_eq_getD_getElem?, this], hs, hR⟩
end
end E
end Go.Proofs.Ytflkbabhbnmajaa

/- Rows of rows, and the plan in memory. -/
set_option linter.unusedSimpArgs false
set_option linter.unusedVariables false
namespace Go.Proofs.Ytflkbabhbnmajaa
namespace E
open Go Go.RowKit

/-! ### Cells by a function -/
def bls (m : Nat) (f : Nat → Bool) : List Value := (List.range m).map fun i => .bool (f i)
def iis (m : Nat) (f : Nat → Int) : List Value := (List.range m).map fun i => .int .i64 (f i)
def slc2 (m : Nat) (A : Nat → Option Addr) (len c : Nat → Nat) : List Value := (List.range m).map fun i => .slice (A i) (len i) (c i)
@[simp] theorem bls_length (m : Nat) (f : Nat → Bool) : (bls m f).length = m := by simp [bls]
@[simp] theorem iis_length (m : Nat) (f : Nat → Int) : (iis m f).length = m := by simp [iis]
@[simp] theorem slc2_length (m : Nat) (A : Nat → Option Addr) (len c : Nat → Nat) : (slc2 m A len c).length = m := by simp [slc2]
def up {α : Type} (f : Nat → α) (k : Nat) (v : α) : Nat → α := fun i => if i = k then v else f i
theorem up_same {α : Type} (f : Nat → α) (k : Nat) (v : α) : up f k v k = v := if_pos rfl
theorem up_ne {α : Type} (f : Nat → α) {k i : Nat} (v : α) (h : i ≠ k) : up f k v i = f i := if_neg h
theorem range_set {α : Type} (m : Nat) (f : Nat → α) (g : Nat → Value) (h : α → Value) (k : Nat) (v : α) (hg : ∀ i, g i = h (f i)) :
    ((List.range m).map g).set k (h v) = (List.range m).map fun i => h (up f k v i) := by
  apply List.ext_getElem (by simp)
  intro i h1 h2
  simp only [List.length_set, List.length_map, List.length_range] at h1
  rw [List.getElem_set]
  simp only [List.getElem_map, List.getElem_range]
  by_cases e : k = i
  · subst e; rw [if_pos rfl, up_same]
  · rw [if_neg e, up_ne f v (fun e' => e e'.symm), hg]
theorem bls_set (m : Nat) (f : Nat → Bool) (k : Nat) (v : Bool) : (bls m f).set k (.bool v) = bls m (up f k v) := range_set m f _ .bool k v fun _ => rfl
theorem iis_set (m : Nat) (f : Nat → Int) (k : Nat) (v : Int) : (iis m f).set k (.int .i64 v) = iis m (up f k v) := range_set m f _ (.int .i64) k v fun _ => rfl
theorem bls_rep (m : Nat) : List.replicate m (.bool false) = bls m fun _ => false := by
  apply List.ext_getElem (by simp); intro i h1 h2; simp [bls]
theorem iis_rep (m : Nat) : List.replicate m (.int .i64 0) = iis m fun _ => 0 := by
  apply List.ext_getElem (by simp); intro i h1 h2; simp [iis]
theorem slc2_rep (m : Nat) : List.replicate m (.slice none 0 0) = slc2 m (fun _ => none) (fun _ => 0) fun _ => 0 := by
  apply List.ext_getElem (by simp); intro i h1 h2; simp [slc2]
theorem slc2_set (m : Nat) (A : Nat → Option Addr) (len c : Nat → Nat) (k : Nat) (A' : Option Addr) (l' c' : Nat) :
    (slc2 m A len c).set k (.slice A' l' c') = slc2 m (up A k A') (up len k l') (up c k c') := by
  apply List.ext_getElem (by simp)
  intro i h1 h2
  simp only [List.length_set, slc2_length] at h1
  rw [List.getElem_set]
  simp only [slc2, List.getElem_map, List.getElem_range]
  by_cases e : k = i
  · subst e; simp [up_same]
  · rw [if_neg e, up_ne _ _ (fun e' => e e'.symm), up_ne _ _ (fun e' => e e'.symm), up_ne _ _ (fun e' => e e'.symm)]
theorem slc2_snoc (m : Nat) (A : Nat → Option Addr) (len c : Nat → Nat) (A' : Option Addr) (l' c' : Nat) :
    slc2 m A len c ++ [.slice A' l' c'] = slc2 (m + 1) (up A m A') (up len m l') (up c m c') := by
  unfold slc2
  rw [List.range_succ, List.map_append, List.map_cons, List.map_nil, up_same, up_same, up_same]
  congr 1
  apply List.map_congr_left
  intro i hi
  have := List.mem_range.1 hi
  rw [up_ne _ _ (by omega), up_ne _ _ (by omega), up_ne _ _ (by omega)]
section
variable {P : Program} {n : Fr} {w0 : World} {F : Nat → Prop} {K : Kt} {l : Env} {H : List HP} {o : Oper}

/-! ### Loads, stores, makes -/
theorem PV.load_bl {t : TypeId} {x : Operand} {A : Option Addr} {k m : Nat} {f : Nat → Bool} (hR : ∀ w, HA w0 F H w → Rd w (Old w) A (bls m f)) (ht : Na P t) (ho : o.op = .load t x) (hx : ev l x = some (eptr A k)) (hk : k < m) :
    PV P n w0 F l H o (.bool (f k)) := PV.load_of hR ht ho hx (by simp [bls, hk])
theorem PV.load_ii {t : TypeId} {x : Operand} {A : Option Addr} {k m : Nat} {f : Nat → Int} (hR : ∀ w, HA w0 F H w → Rd w (Old w) A (iis m f)) (ht : Na P t) (ho : o.op = .load t x) (hx : ev l x = some (eptr A k)) (hk : k < m) :
    PV P n w0 F l H o (.int .i64 (f k)) := PV.load_of hR ht ho hx (by simp [iis, hk])
theorem PV.load_s2 {t : TypeId} {x : Operand} {A : Option Addr} {k m : Nat} {B : Nat → Option Addr} {len c : Nat → Nat} (hR : ∀ w, HA w0 F H w → Rd w (Old w) A (slc2 m B len c)) (ht : Na P t) (ho : o.op = .load t x) (hx : ev l x = some (eptr A k)) (hk : k < m) :
    PV P n w0 F l H o (.slice (B k) (len k) (c k)) := PV.load_of hR ht ho hx (by simp [slc2, hk])
theorem OW.store_bl {ops : Array Oper} {rest : List Oper} {t : TypeId} {x y : Operand} {Et i m c j : Nat} {A : Option Addr} {b : Bool} {f : Nat → Bool} {H' : List HP} (hsz : ∀ w, (sizeOf t).run P w = .ok 1 w) (ho : o.op = .store t x y)
    (hg : gd ops l o.guard = some true) (hd : o.dst = none) (hx : ev l x = some (eptr A j)) (hy : ev l y = some (.bool b))
    (hi : sel H i = some (HP.row Et 1 A m c (bls m f), H')) (hj : j < m) (k : OW P n w0 F ops K rest l (HP.row Et 1 A m c (bls m (up f j b)) :: H')) : OW P n w0 F ops K (o :: rest) l H :=
  OW.store_row hsz ho hg hd hx hy rfl rfl hi hj (by rw [bls_set]; exact k)
theorem OW.store_ii {ops : Array Oper} {rest : List Oper} {t : TypeId} {x y : Operand} {Et i m c j : Nat} {A : Option Addr} {b : Int} {f : Nat → Int} {H' : List HP} (hsz : ∀ w, (sizeOf t).run P w = .ok 1 w) (ho : o.op = .store t x y)
    (hg : gd ops l o.guard = some true) (hd : o.dst = none) (hx : ev l x = some (eptr A j)) (hy : ev l y = some (.int .i64 b))
    (hi : sel H i = some (HP.row Et 1 A m c (iis m f), H')) (hj : j < m) (k : OW P n w0 F ops K rest l (HP.row Et 1 A m c (iis m (up f j b)) :: H')) : OW P n w0 F ops K (o :: rest) l H :=
  OW.store_row hsz ho hg hd hx hy rfl rfl hi hj (by rw [iis_set]; exact k)
theorem OW.store_s2 {ops : Array Oper} {rest : List Oper} {t : TypeId} {x y : Operand} {Et i m cc j l' c' : Nat} {A A' : Option Addr} {B : Nat → Option Addr} {len c : Nat → Nat} {H' : List HP} (hsz : ∀ w, (sizeOf t).run P w = .ok 1 w) (ho : o.op = .store t x y)
    (hg : gd ops l o.guard = some true) (hd : o.dst = none) (hx : ev l x = some (eptr A j)) (hy : ev l y = some (.slice A' l' c'))
    (hi : sel H i = some (HP.row Et 1 A m cc (slc2 m B len c), H')) (hj : j < m) (k : OW P n w0 F ops K rest l (HP.row Et 1 A m cc (slc2 m (up B j A') (up len j l') (up c j c')) :: H')) : OW P n w0 F ops K (o :: rest) l H :=
  OW.store_row hsz ho hg hd hx hy rfl rfl hi hj (by rw [slc2_set]; exact k)
theorem OW.make_bl {ops : Array Oper} {rest : List Oper} {d : Nat} {t Et bytes : Nat} {x y : Operand} {kx ky : IntKind} {px : Int} (m : Nat) (hT : P.underlying t = some (.slice Et)) (hI : In P Et (.bool false) 1 bytes)
    (ho : o.op = .makeSlice t x y) (hg : gd ops l o.guard = some true) (hd : o.dst = some d) (hn : Nat.blt d n.sz = true) (hx : ev l x = some (.int kx px)) (hy : ev l y = some (.int ky px)) (hm : px = (m : Int))
    (hmax : m ≤ maxLen) (hb : bytes * m ≤ 281474976710656)
    (k : ∀ A, OW P n w0 F ops K rest ((d, .slice A m m) :: l) (HP.row Et 1 A m m (bls m fun _ => false) :: H)) : OW P n w0 F ops K (o :: rest) l H :=
  OW.make m hT hI rfl ho hg hd hn hx hy hm hmax hb (fun A => by rw [bls_rep]; exact k A)
theorem OW.make_ii {ops : Array Oper} {rest : List Oper} {d : Nat} {t Et bytes : Nat} {x y : Operand} {kx ky : IntKind} {px : Int} (m : Nat) (hT : P.underlying t = some (.slice Et)) (hI : In P Et (.int .i64 0) 1 bytes)
    (ho : o.op = .makeSlice t x y) (hg : gd ops l o.guard = some true) (hd : o.dst = some d) (hn : Nat.blt d n.sz = true) (hx : ev l x = some (.int kx px)) (hy : ev l y = some (.int ky px)) (hm : px = (m : Int))
    (hmax : m ≤ maxLen) (hb : bytes * m ≤ 281474976710656)
    (k : ∀ A, OW P n w0 F ops K rest ((d, .slice A m m) :: l) (HP.row Et 1 A m m (iis m fun _ => 0) :: H)) : OW P n w0 F ops K (o :: rest) l H :=
  OW.make m hT hI rfl ho hg hd hn hx hy hm hmax hb (fun A => by rw [iis_rep]; exact k A)
theorem OW.make_s2 {ops : Array Oper} {rest : List Oper} {d : Nat} {t Et bytes : Nat} {x y : Operand} {kx ky : IntKind} {px : Int} (m : Nat) (hT : P.underlying t = some (.slice Et)) (hI : In P Et (.slice none 0 0) 1 bytes)
    (ho : o.op = .makeSlice t x y) (hg : gd ops l o.guard = some true) (hd : o.dst = some d) (hn : Nat.blt d n.sz = true) (hx : ev l x = some (.int kx px)) (hy : ev l y = some (.int ky px)) (hm : px = (m : Int))
    (hmax : m ≤ maxLen) (hb : bytes * m ≤ 281474976710656)
    (k : ∀ A, OW P n w0 F ops K rest ((d, .slice A m m) :: l) (HP.row Et 1 A m m (slc2 m (fun _ => none) (fun _ => 0) fun _ => 0) :: H)) : OW P n w0 F ops K (o :: rest) l H :=
  OW.make m hT hI rfl ho hg hd hn hx hy hm hmax hb (fun A => by rw [slc2_rep]; exact k A)

/-! ### Rows of rows -/
/-- m slices of the function's own, each with a block of its own. -/
def HP.rows (Et m : Nat) (A : Nat → Option Addr) (len c : Nat → Nat) (xs : Nat → List Value) : HP := HP.bag ((List.range m).map fun k => HP.row Et 1 (A k) (len k) (c k) (xs k))
theorem rows_perm {α : Type} (m k : Nat) (hk : k < m) (f g : Nat → α) (hg : ∀ i, i ≠ k → g i = f i) : ∃ r : List α, ((List.range m).map f).Perm (f k :: r) ∧ ((List.range m).map g).Perm (g k :: r) := by
  have hp := List.perm_cons_erase (List.mem_range.2 hk)
  refine ⟨((List.range m).erase k).map f, by simpa using hp.map f, ?_⟩
  have h2 : ((List.range m).erase k).map g = ((List.range m).erase k).map f := by
    apply List.map_congr_left
    intro i hi
    exact hg i ((List.Nodup.mem_erase_iff (List.nodup_range)).1 hi).1
  rw [← h2]
  simpa using hp.map g
/-- a row out of the rows, and one back. -/
theorem OW.rows_out {ops : Array Oper} {rest : List Oper} {Et m k : Nat} {A A' : Nat → Option Addr} {len len' c c' : Nat → Nat} {xs xs' : Nat → List Value} {H' : List HP} (i : Nat) (hi : E.sel H i = some (HP.rows Et m A len c xs, H')) (hk : k < m)
    (hg : ∀ j, j ≠ k → HP.row Et 1 (A' j) (len' j) (c' j) (xs' j) = HP.row Et 1 (A j) (len j) (c j) (xs j))
    (h : ∀ r : HP, (∀ l1 R (K1 : Kt) (rest1 : List Oper), OW P n w0 F ops K1 rest1 l1 (HP.rows Et m A' len' c' xs' :: R) → OW P n w0 F ops K1 rest1 l1 (HP.row Et 1 (A' k) (len' k) (c' k) (xs' k) :: r :: R)) →
      OW P n w0 F ops K rest l (HP.row Et 1 (A k) (len k) (c k) (xs k) :: r :: H')) : OW P n w0 F ops K rest l H := by
  obtain ⟨r, h1, h2⟩ := rows_perm m k hk (fun k => HP.row Et 1 (A k) (len k) (c k) (xs k)) (fun k => HP.row Et 1 (A' k) (len' k) (c' k) (xs' k)) hg
  intro a w ha hw
  refine h (HP.bag r) (fun l1 R K1 rest1 hc a w ha hw => hc a w ha { hw with chunks := Chunks.bag_perm h2.symm (Chunks.bag_in hw.chunks) }) a w ha ?_
  have hs := hw.sel hi
  exact { hs with chunks := Chunks.bag_out (Chunks.bag_perm h1 hs.chunks) }
/-- a store into a row of numbers. -/
theorem OW.store_rows {ops : Array Oper} {rest : List Oper} {t : TypeId} {x y : Operand} {Et i m N j q : Nat} {A : Nat → Option Addr} {c : Nat → Nat} {D : Nat → Nat → Int} {b : Int} {H' : List HP} (hsz : ∀ w, (sizeOf t).run P w = .ok 1 w) (ho : o.op = .store t x y)
    (hg : gd ops l o.guard = some true) (hd : o.dst = none) (hx : ev l x = some (eptr (A q) j)) (hy : ev l y = some (.int .i64 b))
    (hi : sel H i = some (HP.rows Et m A (fun _ => N) c (fun k => iis N (D k)), H')) (hq : q < m) (hj : j < N) (k : OW P n w0 F ops K rest l (HP.rows Et m A (fun _ => N) c (fun k => iis N (up D q (up (D q) j b) k)) :: H')) : OW P n w0 F ops K (o :: rest) l H := by
  refine OW.rows_out (A' := A) (len' := fun _ => N) (c' := c) (xs' := fun k => iis N (up D q (up (D q) j b) k)) i hi hq (fun s hs => by rw [up_ne _ _ hs]) fun r hback => ?_
  refine OW.store_ii (i := 0) hsz ho hg hd hx hy rfl hj ?_
  refine hback l H' K rest k |> fun h => ?_
  rw [up_same] at h
  exact h
/-- one more row. -/
theorem rows_snoc {Et m : Nat} {A : Nat → Option Addr} {len c : Nat → Nat} {xs : Nat → List Value} {A' : Option Addr} {l' c' : Nat} {ys : List Value} {w : World} {U : Nat → Prop} {R : List HP}
    (h : Chunks w U (HP.row Et 1 A' l' c' ys :: HP.rows Et m A len c xs :: R)) : Chunks w U (HP.rows Et (m + 1) (up A m A') (up len m l') (up c m c') (up xs m ys) :: R) := by
  refine Chunks.bag_perm ?_ (Chunks.bag_in h)
  rw [List.range_succ, List.map_append, List.map_cons, List.map_nil, up_same, up_same, up_same, up_same]
  have : ((List.range m).map fun k => HP.row Et 1 (up A m A' k) (up len m l' k) (up c m c' k) (up xs m ys k)) = (List.range m).map fun k => HP.row Et 1 (A k) (len k) (c k) (xs k) := by
    apply List.map_congr_left
    intro i hi
    have := List.mem_range.1 hi
    rw [up_ne _ _ (by omega), up_ne _ _ (by omega), up_ne _ _ (by omega), up_ne _ _ (by omega)]
  rw [this]
  exact List.perm_append_comm (l₁ := [HP.row Et 1 A' l' c' ys])
theorem CW.rows_snoc {c0 : Code} {Et m : Nat} {A : Nat → Option Addr} {len c : Nat → Nat} {xs : Nat → List Value} {A' : Option Addr} {l' c' : Nat} {ys : List Value} {H1 R : List HP} (is : List Nat) (hs : E.sels H is = some H1) (hH : H1 = HP.row Et 1 A' l' c' ys :: HP.rows Et m A len c xs :: R)
    (k : CW P n w0 F c0 K l (HP.rows Et (m + 1) (up A m A') (up len m l') (up c m c') (up xs m ys) :: R)) : CW P n w0 F c0 K l H :=
  CW.sels is hs (CW.conv (fun w U h => by subst hH; exact E.rows_snoc h) k)
theorem CW.rows_nil {c0 : Code} {Et : Nat} {A : Nat → Option Addr} {len c : Nat → Nat} {xs : Nat → List Value} (k : CW P n w0 F c0 K l (HP.rows Et 0 A len c xs :: H)) : CW P n w0 F c0 K l H := CW.conv (fun w U h => h.bag_nil) k
end
end E
end Go.Proofs.Ytflkbabhbnmajaa

/- A search from a goal backwards, in all phases at once, plainly: no program in sight. -/
namespace Go.Proofs.Ytflkbabhbnmajaa
namespace Bf
structure G where
  n : Nat
  K : Nat
  cell : Nat → Bool
  al : Nat → Nat → Bool
  nr : Nat → List Nat
  goal : Nat
structure G.ok (x : G) : Prop where
  K0 : 0 < x.K
  nrlt : ∀ p q, p < x.n → q ∈ x.nr p → q < x.n
  sym : ∀ p q, p < x.n → q ∈ x.nr p → p ∈ x.nr q
  glt : x.goal < x.n
  gal : ∀ k, k < x.K → x.al k x.goal = true
  alc : ∀ k p, x.al k p = true → x.cell p = true
/-- a walk of m steps from a place at a phase to the goal. -/
def W (x : G) : Nat → Nat → Nat → Prop
  | 0, _, p => p = x.goal
  | m + 1, k, p => ∃ q, q ∈ x.nr p ∧ x.al ((k + 1) % x.K) q = true ∧ W x m ((k + 1) % x.K) q
def bef (x : G) (k : Nat) : Nat := (k + x.K - 1) % x.K
theorem bef_lt {x : G} (h : x.ok) (k : Nat) : bef x k < x.K := Nat.mod_lt _ h.K0
theorem bef_succ {x : G} (h : x.ok) {k : Nat} (hk : k < x.K) : (bef x k + 1) % x.K = k := by
  have := h.K0
  unfold bef
  rcases Nat.eq_zero_or_pos k with rfl | h0
  · rw [show 0 + x.K - 1 = x.K - 1 by omega, Nat.mod_eq_of_lt (show x.K - 1 < x.K by omega), show x.K - 1 + 1 = x.K by omega, Nat.mod_self]
  · rw [show k + x.K - 1 = (k - 1) + x.K by omega, Nat.add_mod_right, Nat.mod_eq_of_lt (show k - 1 < x.K by omega), show k - 1 + 1 = k by omega, Nat.mod_eq_of_lt hk]
theorem succ_bef {x : G} (h : x.ok) {k : Nat} (hk : k < x.K) : bef x ((k + 1) % x.K) = k := by
  have := h.K0
  unfold bef
  rcases Nat.lt_or_ge (k + 1) x.K with h1 | h1
  · rw [Nat.mod_eq_of_lt h1, show k + 1 + x.K - 1 = k + x.K by omega, Nat.add_mod_right, Nat.mod_eq_of_lt hk]
  · have : k + 1 = x.K := by omega
    rw [this, Nat.mod_self, show 0 + x.K - 1 = k by omega, Nat.mod_eq_of_lt hk]
abbrev DD := Nat → Nat → Int
def upd (D : DD) (k p : Nat) (v : Int) : DD := fun k' p' => if k' = k ∧ p' = p then v else D k' p'
def seeD (D : DD) (p k : Nat) (m : Int) : DD := if D k p < 0 then upd D k p m else D
def seeQ (x : G) (D : DD) (q : List (Nat × Nat)) (p k : Nat) : List (Nat × Nat) := if D k p < 0 ∧ x.al k p = true then q ++ [(p, k)] else q
def at_ (q : List (Nat × Nat)) (i : Nat) : Nat × Nat := q.getD i (0, 0)
theorem at_mem {q : List (Nat × Nat)} {i : Nat} (h : i < q.length) : at_ q i ∈ q := by simp [at_, List.getD, h]
theorem at_app {q r : List (Nat × Nat)} {i : Nat} (h : i < q.length) : at_ (q ++ r) i = at_ q i := by simp [at_, List.getD, List.getElem?_append_left h]
theorem at_new {q : List (Nat × Nat)} {s : Nat × Nat} : at_ (q ++ [s]) q.length = s := by simp [at_, List.getD]
/-- the search, when the first h states of the queue have been looked at. -/
structure Base (x : G) (D : DD) (q : List (Nat × Nat)) (h : Nat) : Prop where
  mem : ∀ s, s ∈ q → s.1 < x.n ∧ s.2 < x.K ∧ x.al s.2 s.1 = true ∧ 0 ≤ D s.2 s.1
  nd : q.Nodup
  asg : ∀ k p, k < x.K → p < x.n → D k p = -1 ∨ (0 ≤ D k p ∧ W x (D k p).toNat k p)
  inq : ∀ k p, k < x.K → p < x.n → 0 ≤ D k p → x.al k p = true → (p, k) ∈ q
  so : ∀ i j, i ≤ j → j < q.length → D (at_ q i).2 (at_ q i).1 ≤ D (at_ q j).2 (at_ q j).1
  le : h < q.length → ∀ k p, k < x.K → p < x.n → D k p ≤ D (at_ q h).2 (at_ q h).1 + 1
  ix : ∀ j, j < q.length → D (at_ q j).2 (at_ q j).1 ≤ j
  bd : ∀ k p, k < x.K → p < x.n → D k p ≤ q.length
  pr : ∀ i, i < h → i < q.length → ∀ p, p ∈ x.nr (at_ q i).1 → x.cell p = true → 0 ≤ D (bef x (at_ q i).2) p ∧ D (bef x (at_ q i).2) p ≤ D (at_ q i).2 (at_ q i).1 + 1
theorem len_le {x : G} {D : DD} {q : List (Nat × Nat)} {h : Nat} (b : Base x D q h) : q.length ≤ x.n * x.K := by
  have h1 : q ⊆ (List.range x.n).flatMap fun p => (List.range x.K).map fun k => (p, k) := by
    intro s hs
    obtain ⟨h1, h2, _⟩ := b.mem s hs
    simp only [List.mem_flatMap, List.mem_range, List.mem_map]
    exact ⟨s.1, h1, s.2, h2, rfl⟩
  have h2 := b.nd.length_le_of_subset h1
  have h3 : ((List.range x.n).flatMap fun p => (List.range x.K).map fun k => (p, k)).length = x.n * x.K := by
    simp [List.length_flatMap, List.map_const']
  omega
/-- one look: from the state at h to a neighbour, or at the goal in the beginning (h = 0, D.. = 0). -/
theorem Base.see {x : G} (ok : x.ok) {D : DD} {q : List (Nat × Nat)} {h p k : Nat} {m : Int} (b : Base x D q h) (hk : k < x.K) (hp : p < x.n) (hm : 0 ≤ m) (hw : W x m.toNat k p)
    (hq : ∀ k p, k < x.K → p < x.n → D k p ≤ m) (hi : m ≤ q.length) (hl : h < q.length → m ≤ D (at_ q h).2 (at_ q h).1 + 1) (hh : h ≤ q.length) :
    Base x (seeD D p k m) (seeQ x D q p k) h := by
  unfold seeD seeQ
  by_cases hd : D k p < 0
  · rw [if_pos hd]
    have hold : ∀ k' p', k' < x.K → p' < x.n → 0 ≤ D k' p' → upd D k p m k' p' = D k' p' := by
      intro k' p' _ _ h1
      unfold upd
      rw [if_neg]
      rintro ⟨rfl, rfl⟩
      omega
    have hmem : ∀ s, s ∈ q → upd D k p m s.2 s.1 = D s.2 s.1 := fun s hs => hold _ _ (b.mem s hs).2.1 (b.mem s hs).1 (b.mem s hs).2.2.2
    have hnew : upd D k p m k p = m := by simp [upd]
    have hdm : ∀ k' p', k' < x.K → p' < x.n → upd D k p m k' p' ≤ m := by
      intro k' p' h1 h2
      unfold upd
      split
      · exact Int.le_refl _
      · exact hq k' p' h1 h2
    have has : ∀ k' p', k' < x.K → p' < x.n → upd D k p m k' p' = -1 ∨ (0 ≤ upd D k p m k' p' ∧ W x (upd D k p m k' p').toNat k' p') := by
      intro k' p' h1 h2
      unfold upd
      split
      · rename_i e; obtain ⟨rfl, rfl⟩ := e; exact .inr ⟨hm, hw⟩
      · exact b.asg k' p' h1 h2
    have hnin : (p, k) ∉ q := fun hin => by have := (b.mem _ hin).2.2.2; simp only at this; omega
    have hpr : ∀ i, i < h → i < q.length → ∀ p', p' ∈ x.nr (at_ q i).1 → x.cell p' = true → 0 ≤ upd D k p m (bef x (at_ q i).2) p' ∧ upd D k p m (bef x (at_ q i).2) p' ≤ upd D k p m (at_ q i).2 (at_ q i).1 + 1 := by
      intro i h1 h2 p' h3 h4
      have h5 := b.pr i h1 h2 p' h3 h4
      have h6 := b.mem _ (at_mem h2)
      rw [hold _ _ (bef_lt ok _) (ok.nrlt _ _ h6.1 h3) h5.1, hmem _ (at_mem h2)]
      exact h5
    by_cases ha : x.al k p = true
    · rw [if_pos ⟨hd, ha⟩]
      have hat : ∀ i, i < (q ++ [(p, k)]).length → (i < q.length ∧ at_ (q ++ [(p, k)]) i = at_ q i) ∨ (i = q.length ∧ at_ (q ++ [(p, k)]) i = (p, k)) := by
        intro i h1
        rw [List.length_append, List.length_singleton] at h1
        rcases Nat.lt_or_ge i q.length with h2 | h2
        · exact .inl ⟨h2, at_app h2⟩
        · have : i = q.length := by omega
          subst this
          exact .inr ⟨rfl, at_new⟩
      refine ⟨?_, ?_, has, ?_, ?_, ?_, ?_, ?_, ?_⟩
      · intro s hs
        rcases List.mem_append.1 hs with h1 | h1
        · rw [hmem s h1]; exact b.mem s h1
        · rw [List.mem_singleton.1 h1]; exact ⟨hp, hk, ha, by simp only; rw [hnew]; exact hm⟩
      · exact List.nodup_append.2 ⟨b.nd, by simp, fun s h1 t h2 e => by rw [List.mem_singleton.1 h2] at e; exact hnin (e ▸ h1)⟩
      · intro k' p' h1 h2 h3 h4
        by_cases e : k' = k ∧ p' = p
        · obtain ⟨rfl, rfl⟩ := e; simp
        · have : upd D k p m k' p' = D k' p' := by unfold upd; rw [if_neg e]
          rw [this] at h3
          exact List.mem_append.2 (.inl (b.inq k' p' h1 h2 h3 h4))
      · intro i j hij hj
        rcases hat j hj with ⟨h1, h2⟩ | ⟨h1, h2⟩
        · rw [h2, (at_app (Nat.lt_of_le_of_lt hij h1) : at_ (q ++ [(p, k)]) i = _), hmem _ (at_mem h1), hmem _ (at_mem (Nat.lt_of_le_of_lt hij h1))]
          exact b.so i j hij h1
        · rw [h2]; simp only; rw [hnew]
          rcases hat i (by omega) with ⟨h3, h4⟩ | ⟨h3, h4⟩
          · rw [h4]; have := b.mem _ (at_mem h3); exact hdm _ _ this.2.1 this.1
          · rw [h4]; simp only; rw [hnew]; exact Int.le_refl _
      · intro _ k' p' h1 h2
        have := hdm k' p' h1 h2
        rcases hat h (by simp; omega) with ⟨h3, h4⟩ | ⟨h3, h4⟩
        · rw [h4, hmem _ (at_mem h3)]; have := hl h3; omega
        · rw [h4]; simp only; rw [hnew]; omega
      · intro j hj
        rcases hat j hj with ⟨h1, h2⟩ | ⟨h1, h2⟩
        · rw [h2, hmem _ (at_mem h1)]; exact b.ix j h1
        · rw [h2]; simp only; rw [hnew, h1]; exact hi
      · intro k' p' h1 h2
        have := hdm k' p' h1 h2
        simp only [List.length_append, List.length_singleton]; omega
      · intro i h1 h2 p' h3 h4
        rcases hat i h2 with ⟨h5, h6⟩ | ⟨h5, h6⟩
        · rw [h6] at h3 ⊢; exact hpr i h1 h5 p' h3 h4
        · omega
    · rw [if_neg (fun e => ha e.2)]
      refine ⟨?_, b.nd, has, ?_, ?_, ?_, ?_, ?_, hpr⟩
      · intro s hs; rw [hmem s hs]; exact b.mem s hs
      · intro k' p' h1 h2 h3 h4
        by_cases e : k' = k ∧ p' = p
        · obtain ⟨rfl, rfl⟩ := e; exact absurd h4 ha
        · have : upd D k p m k' p' = D k' p' := by unfold upd; rw [if_neg e]
          rw [this] at h3
          exact b.inq k' p' h1 h2 h3 h4
      · intro i j hij hj
        rw [hmem _ (at_mem hj), hmem _ (at_mem (Nat.lt_of_le_of_lt hij hj))]
        exact b.so i j hij hj
      · intro h1 k' p' h2 h3
        have := hdm k' p' h2 h3
        rw [hmem _ (at_mem h1)]; have := hl h1; omega
      · intro j hj; rw [hmem _ (at_mem hj)]; exact b.ix j hj
      · intro k' p' h1 h2
        have := hdm k' p' h1 h2
        omega
  · rw [if_neg hd, if_neg (fun e => hd e.1)]
    exact b
theorem see_no {x : G} {D : DD} {q : List (Nat × Nat)} {p k : Nat} {m : Int} (h : ¬ D k p < 0) : seeQ x D q p k = q ∧ seeD D p k m = D := ⟨if_neg fun e => h e.1, if_neg h⟩
theorem see_off {x : G} {D : DD} {q : List (Nat × Nat)} {p k : Nat} {m : Int} (h : D k p < 0) (ha : x.al k p = false) : seeQ x D q p k = q ∧ seeD D p k m = upd D k p m := ⟨if_neg fun e => by rw [ha] at e; exact absurd e.2 (by decide), if_pos h⟩
theorem see_on {x : G} {D : DD} {q : List (Nat × Nat)} {p k : Nat} {m : Int} (h : D k p < 0) (ha : x.al k p = true) : seeQ x D q p k = q ++ [(p, k)] ∧ seeD D p k m = upd D k p m := ⟨if_pos ⟨h, ha⟩, if_pos h⟩
theorem bef_int {x : G} (h : x.ok) (k : Nat) : ((k : Int) + (x.K : Int) - 1) % (x.K : Int) = ((bef x k : Nat) : Int) := by
  have := h.K0
  unfold bef
  rw [Int.natCast_emod]
  congr 1
  omega
theorem seeD_keep {D : DD} {p k k' p' : Nat} {m : Int} (h : 0 ≤ D k' p') : seeD D p k m k' p' = D k' p' := by
  unfold seeD
  split
  · unfold upd
    rw [if_neg]
    rintro ⟨rfl, rfl⟩
    omega
  · rfl
theorem seeD_new {D : DD} {p k : Nat} {m : Int} (hm : 0 ≤ m) : 0 ≤ seeD D p k m k p ∧ (seeD D p k m k p = m ∨ seeD D p k m k p = D k p) := by
  unfold seeD
  split
  · have : upd D k p m k p = m := by simp [upd]
    rw [this]; exact ⟨hm, .inl rfl⟩
  · exact ⟨by omega, .inr rfl⟩
theorem seeQ_le {x : G} {D : DD} {q : List (Nat × Nat)} {p k : Nat} : q.length ≤ (seeQ x D q p k).length := by
  unfold seeQ; split
  · rw [List.length_append]; omega
  · exact Nat.le_refl _
theorem seeQ_at {x : G} {D : DD} {q : List (Nat × Nat)} {p k i : Nat} (h : i < q.length) : at_ (seeQ x D q p k) i = at_ q i := by
  unfold seeQ; split
  · exact at_app h
  · rfl
/-- the state at h is looked at, up to its j-th neighbour. -/
structure Part (x : G) (D : DD) (q : List (Nat × Nat)) (h j : Nat) : Prop where
  b : Base x D q h
  hl : h < q.length
  g : ∀ k, k < x.K → D k x.goal = 0
  nb : ∀ i, i < j → i < (x.nr (at_ q h).1).length → x.cell ((x.nr (at_ q h).1).getD i 0) = true →
    0 ≤ D (bef x (at_ q h).2) ((x.nr (at_ q h).1).getD i 0) ∧ D (bef x (at_ q h).2) ((x.nr (at_ q h).1).getD i 0) ≤ D (at_ q h).2 (at_ q h).1 + 1
theorem Part.skip {x : G} {D : DD} {q : List (Nat × Nat)} {h j : Nat} (a : Part x D q h j) (hc : x.cell ((x.nr (at_ q h).1).getD j 0) = false) : Part x D q h (j + 1) :=
  ⟨a.b, a.hl, a.g, fun i h1 h2 h3 => by
    rcases Nat.lt_or_ge i j with h4 | h4
    · exact a.nb i h4 h2 h3
    · have : i = j := by omega
      subst this
      rw [hc] at h3; exact absurd h3 (by decide)⟩
theorem Part.see {x : G} (ok : x.ok) {D : DD} {q : List (Nat × Nat)} {h j : Nat} (a : Part x D q h j) (hj : j < (x.nr (at_ q h).1).length) (hc : x.cell ((x.nr (at_ q h).1).getD j 0) = true) :
    Part x (seeD D ((x.nr (at_ q h).1).getD j 0) (bef x (at_ q h).2) (D (at_ q h).2 (at_ q h).1 + 1)) (seeQ x D q ((x.nr (at_ q h).1).getD j 0) (bef x (at_ q h).2)) h (j + 1) := by
  obtain ⟨m1, m2, m3, m4⟩ := a.b.mem _ (at_mem a.hl)
  have hp : (x.nr (at_ q h).1).getD j 0 ∈ x.nr (at_ q h).1 := by simp [List.getD, hj]
  have hn := ok.nrlt _ _ m1 hp
  have hb := bef_lt ok (at_ q h).2
  have hle := a.b.le a.hl
  have hix := a.b.ix h a.hl
  have hw : W x (D (at_ q h).2 (at_ q h).1 + 1).toNat (bef x (at_ q h).2) ((x.nr (at_ q h).1).getD j 0) := by
    rw [show (D (at_ q h).2 (at_ q h).1 + 1).toNat = (D (at_ q h).2 (at_ q h).1).toNat + 1 by omega]
    refine ⟨(at_ q h).1, ok.sym _ _ m1 hp, ?_, ?_⟩
    · rw [bef_succ ok m2]; exact m3
    · rw [bef_succ ok m2]
      rcases a.b.asg _ _ m2 m1 with h1 | ⟨_, h1⟩
      · omega
      · exact h1
  have hbase := a.b.see ok (p := (x.nr (at_ q h).1).getD j 0) (k := bef x (at_ q h).2) (m := D (at_ q h).2 (at_ q h).1 + 1) hb hn (by omega) hw hle (by have := a.hl; omega) (fun _ => Int.le_refl _) (by have := a.hl; omega)
  refine ⟨hbase, Nat.lt_of_lt_of_le a.hl seeQ_le, fun k hk => ?_, fun i h1 h2 h3 => ?_⟩
  · rw [seeD_keep (by rw [a.g k hk]; omega)]; exact a.g k hk
  · rw [seeQ_at a.hl] at h2 h3 ⊢
    rw [seeD_keep m4]
    rcases Nat.lt_or_ge i j with h4 | h4
    · have h5 := a.nb i h4 h2 h3
      rw [seeD_keep h5.1]; exact h5
    · have : i = j := by omega
      subst this
      have h5 := seeD_new (D := D) (p := (x.nr (at_ q h).1).getD i 0) (k := bef x (at_ q h).2) (m := D (at_ q h).2 (at_ q h).1 + 1) (by omega)
      refine ⟨h5.1, ?_⟩
      rcases h5.2 with h6 | h6
      · omega
      · rw [h6]; exact hle _ _ hb hn
/-- a state has been looked at. -/
theorem Base.next {x : G} {D : DD} {q : List (Nat × Nat)} {h : Nat} (b : Base x D q h) (hh : h < q.length)
    (hp : ∀ p, p ∈ x.nr (at_ q h).1 → x.cell p = true → 0 ≤ D (bef x (at_ q h).2) p ∧ D (bef x (at_ q h).2) p ≤ D (at_ q h).2 (at_ q h).1 + 1) : Base x D q (h + 1) := by
  refine { b with le := fun h1 k p h2 h3 => ?_, pr := fun i h1 h2 p h3 h4 => ?_ }
  · have h4 := b.le hh k p h2 h3
    have h5 := b.so h (h + 1) (by omega) h1
    omega
  · rcases Nat.lt_or_ge i h with h5 | h5
    · exact b.pr i h5 h2 p h3 h4
    · have : i = h := by omega
      subst this
      exact hp p h3 h4
theorem Part.done {x : G} {D : DD} {q : List (Nat × Nat)} {h j : Nat} (a : Part x D q h j) (hj : (x.nr (at_ q h).1).length ≤ j) : Base x D q (h + 1) :=
  a.b.next a.hl fun p h1 h2 => by
    obtain ⟨i, hi, rfl⟩ := List.getElem_of_mem h1
    have h3 := a.nb i (by omega) hi (by simpa [List.getD, hi] using h2)
    simpa [List.getD, hi] using h3
/-- the beginning: the goal, in the first j phases. -/
structure Start (x : G) (D : DD) (q : List (Nat × Nat)) (j : Nat) : Prop where
  b : Base x D q 0
  g : ∀ k, k < j → D k x.goal = 0
  o : ∀ k p, D k p = -1 ∨ D k p = 0
  u : ∀ k p, j ≤ k → D k p = -1
theorem Start.zero (x : G) {D : DD} (h : ∀ k p, D k p = -1) : Start x D [] 0 :=
  ⟨⟨(fun s hs => absurd hs (by simp)), List.nodup_nil, fun k p _ _ => .inl (h k p), fun k p _ _ h1 _ => by rw [h k p] at h1; omega, fun i j _ hj => by simp at hj, fun h => by simp at h, fun j hj => by simp at hj, fun k p _ _ => by rw [h k p]; simp, fun i h => by omega⟩,
    fun k h => by omega, fun k p => .inl (h k p), fun k p _ => h k p⟩
theorem Start.see {x : G} (ok : x.ok) {D : DD} {q : List (Nat × Nat)} {j : Nat} (a : Start x D q j) (hj : j < x.K) : Start x (seeD D x.goal j 0) (seeQ x D q x.goal j) (j + 1) := by
  have hd := a.u j x.goal (Nat.le_refl _)
  have hnn : ∀ k p, D k p ≤ 0 := fun k p => by rcases a.o k p with h | h <;> omega
  have hu : seeD D x.goal j 0 = upd D j x.goal 0 := if_pos (by omega)
  refine ⟨a.b.see ok hj ok.glt (Int.le_refl _) rfl (fun k p _ _ => hnn k p) (by omega) (fun h => ?_) (by omega), fun k hk => ?_, fun k p => ?_, fun k p hk => ?_⟩
  · have := (a.b.mem _ (at_mem h)).2.2.2
    omega
  · rw [hu]
    rcases Nat.lt_or_ge k j with h1 | h1
    · unfold upd; rw [if_neg (by omega)]; exact a.g k h1
    · have : k = j := by omega
      subst this
      simp [upd]
  · rw [hu]; unfold upd
    split
    · exact .inr rfl
    · exact a.o k p
  · rw [hu]; unfold upd
    rw [if_neg (by omega)]
    exact a.u k p (by omega)
theorem Base.part {x : G} {D : DD} {q : List (Nat × Nat)} {h : Nat} (b : Base x D q h) (hl : h < q.length) (hg : ∀ k, k < x.K → D k x.goal = 0) : Part x D q h 0 := ⟨b, hl, hg, fun i hi => by omega⟩
/-- at the end: what is assigned is the length of a shortest walk. -/
theorem Base.min {x : G} (ok : x.ok) {D : DD} {q : List (Nat × Nat)} (b : Base x D q q.length) (hg : ∀ k, k < x.K → D k x.goal = 0) :
    ∀ m k p, k < x.K → p < x.n → x.cell p = true → W x m k p → 0 ≤ D k p ∧ D k p ≤ m := by
  intro m
  induction m with
  | zero =>
    intro k p hk hp hc hw
    have : p = x.goal := hw
    subst this
    rw [hg k hk]; omega
  | succ m ih =>
    intro k p hk hp hc ⟨q', h1, h2, h3⟩
    have hq' := ok.nrlt p q' hp h1
    have hk' : (k + 1) % x.K < x.K := Nat.mod_lt _ ok.K0
    obtain ⟨h4, h5⟩ := ih _ q' hk' hq' (ok.alc _ _ h2) h3
    have h6 := b.inq _ _ hk' hq' h4 h2
    obtain ⟨i, hi, he⟩ := List.getElem_of_mem h6
    have hat : at_ q i = (q', (k + 1) % x.K) := by simp [at_, List.getD, hi, he]
    have h7 := b.pr i hi hi p (by rw [hat]; exact ok.sym p q' hp h1) hc
    rw [hat] at h7
    simp only [succ_bef ok hk] at h7
    omega
/-- the length of a shortest walk, -1 if there is none of up to this length. -/
def Ar (x : G) (k p : Nat) (v : Int) : Prop := (v = -1 ∧ ∀ m, ¬ W x m k p) ∨ (0 ≤ v ∧ v ≤ x.n * x.K ∧ W x v.toNat k p ∧ ∀ m, W x m k p → v ≤ m)
theorem Base.ar {x : G} (ok : x.ok) {D : DD} {q : List (Nat × Nat)} (b : Base x D q q.length) (hg : ∀ k, k < x.K → D k x.goal = 0) {k p : Nat} (hk : k < x.K) (hp : p < x.n) (hc : x.cell p = true) : Ar x k p (D k p) := by
  rcases b.asg k p hk hp with h | ⟨h1, h2⟩
  · refine .inl ⟨h, fun m hw => ?_⟩
    have := b.min ok hg m k p hk hp hc hw
    omega
  · refine .inr ⟨h1, ?_, h2, fun m hw => (b.min ok hg m k p hk hp hc hw).2⟩
    have h3 := b.bd k p hk hp
    have h4 := len_le b
    have h5 : (x.n : Int) * x.K = ((x.n * x.K : Nat) : Int) := by simp
    rw [h5]
    omega
theorem Ar.uniq {x : G} {k p : Nat} {v u : Int} (h : Ar x k p v) (h' : Ar x k p u) : v = u := by
  rcases h with ⟨rfl, h⟩ | ⟨h1, _, h2, h3⟩ <;> rcases h' with ⟨rfl, h'⟩ | ⟨h1', _, h2', h3'⟩
  · rfl
  · exact absurd h2' (h _)
  · exact absurd h2 (h' _)
  · have a := h3 _ h2'
    have b := h3' _ h2
    omega
end Bf
end Go.Proofs.Ytflkbabhbnmajaa

/- The plan of a leg in memory, and the queue of its search. -/
set_option linter.unusedSimpArgs false
set_option linter.unusedVariables false
namespace Go.Proofs.Ytflkbabhbnmajaa
namespace E
open Go Go.RowKit
/-! ### What a chunk's own blocks read as -/
theorem Rd.mono {w : World} {S G : Nat → Prop} {A : Option Addr} {xs : List Value} (h : Rd w S A xs) (hg : ∀ k, S k → G k) : Rd w G A xs := fun hx => by
  obtain ⟨ad, h1, h2, h3⟩ := h hx; exact ⟨ad, h1, hg _ h2, h3⟩
theorem row_rdS {w : World} {S : Nat → Prop} {Et sz m c : Nat} {A : Option Addr} {xs : List Value} (h : (HP.row Et sz A m c xs).sem S w) : Rd w S A xs := by
  intro hx
  obtain ⟨hS, h⟩ := h
  rcases h.2 with ⟨hv, hm⟩ | ⟨g, cap, cur, hv, _, hg, _, _, hsz, ht⟩
  · have h1 := h.1
    subst hm
    simp only [Nat.zero_mul] at h1
    omega
  · injection hv with h1 h2 h3
    subst h1
    refine ⟨_, rfl, (hS g).2 rfl, fun j u hu => ?_⟩
    have hadd : (⟨g, 0, none⟩ : Addr).add j = ⟨g, j, none⟩ := by unfold Addr.add; split <;> simp_all
    rw [hadd, cell_of_row w g j cur Et (0, 0) hg]
    rw [← ht, List.getElem?_take] at hu
    split at hu
    · simpa using hu
    · cases hu
theorem blk_rdS {w : World} {S : Nat → Prop} {B T : Nat} {cs : List Value} (h : (HP.blk B T cs).sem S w) : Rd w S (some ⟨B, 0, none⟩) cs := fun hx => by
  refine ⟨_, rfl, (h.1 B).2 rfl, fun j u hu => ?_⟩
  have hadd : (⟨B, 0, none⟩ : Addr).add j = ⟨B, j, none⟩ := by unfold Addr.add; split <;> simp_all
  rw [hadd, cell_of_row w B j _ T (0, 0) h.2]
  simpa using hu
theorem bag_memS {w : World} {ps : List HP} {p : HP} (hp : p ∈ ps) : ∀ {S : Nat → Prop}, bagS w S ps → ∃ S' : Nat → Prop, (∀ k, S' k → S k) ∧ p.sem S' w := by
  induction ps with
  | nil => cases hp
  | cons q r ih =>
    intro S ⟨S1, S2, h1, _, h3, h4⟩
    rcases List.mem_cons.1 hp with rfl | h
    · exact ⟨S1, fun k hk => (h1 k).2 (.inl hk), h3⟩
    · obtain ⟨S', h5, h6⟩ := ih h h4
      exact ⟨S', fun k hk => (h1 k).2 (.inr (h5 k hk)), h6⟩
theorem bag_row {w : World} {ps : List HP} {S : Nat → Prop} {Et sz m c : Nat} {A : Option Addr} {xs : List Value} (h : (HP.bag ps).sem S w) (hp : HP.row Et sz A m c xs ∈ ps) : Rd w S A xs := by
  obtain ⟨S', h1, h2⟩ := bag_memS hp h; exact (row_rdS h2).mono h1
theorem bag_blk {w : World} {ps : List HP} {S : Nat → Prop} {B T : Nat} {cs : List Value} (h : (HP.bag ps).sem S w) (hp : HP.blk B T cs ∈ ps) : Rd w S (some ⟨B, 0, none⟩) cs := by
  obtain ⟨S', h1, h2⟩ := bag_memS hp h; exact (blk_rdS h2).mono h1
theorem rows_rdS {w : World} {S : Nat → Prop} {Et m : Nat} {A : Nat → Option Addr} {len c : Nat → Nat} {xs : Nat → List Value} (h : (HP.rows Et m A len c xs).sem S w) {k : Nat} (hk : k < m) : Rd w S (A k) (xs k) :=
  bag_row (Et := Et) (sz := 1) (m := len k) (c := c k) h (List.mem_map.2 ⟨k, List.mem_range.2 hk, rfl⟩)
theorem bag_rows {w : World} {ps : List HP} {S : Nat → Prop} {Et m : Nat} {A : Nat → Option Addr} {len c : Nat → Nat} {xs : Nat → List Value} (h : (HP.bag ps).sem S w) (hp : HP.rows Et m A len c xs ∈ ps) {k : Nat} (hk : k < m) : Rd w S (A k) (xs k) := by
  obtain ⟨S', h1, h2⟩ := bag_memS hp h; exact (rows_rdS h2 hk).mono h1
theorem Chunks.at_ {w : World} {i : Nat} {H H' : List HP} {p : HP} {U : Nat → Prop} (hc : Chunks w U H) (hi : sel H i = some (p, H')) : ∃ S : Nat → Prop, p.sem S w ∧ ∀ k, S k → k < w.heap.size ∧ ¬ U k := by
  obtain ⟨S, h1, h2, _⟩ := hc.perm (sel_perm hi)
  exact ⟨S, h1, h2⟩
theorem HA.at_ {w0 w : World} {F : Nat → Prop} {i : Nat} {H H' : List HP} {p : HP} (h : HA w0 F H w) (hi : E.sel H i = some (p, H')) : ∃ S : Nat → Prop, p.sem S w ∧ ∀ k, S k → k < w.heap.size ∧ ¬ F k := h.chunks.at_ hi

/-! ### The plan -/
structure Pl where
  B : Nat
  x : Bf.G
  Ac : Option Addr
  cc : Nat
  Aa : Option Addr
  ca : Nat
  Xa : Nat → Option Addr
  ua : Nat → Nat
  Ad : Option Addr
  cd : Nat
  Xd : Nat → Option Addr
  ud : Nat → Nat
  An : Option Addr
  cn : Nat
  Xn : Nat → Option Addr
  un : Nat → Nat
def nn (x : Bf.G) (p : Nat) : List Int := (x.nr p).map fun (q : Nat) => (q : Int)
@[simp] theorem nn_length (x : Bf.G) (p : Nat) : (nn x p).length = (x.nr p).length := by simp [nn]
theorem nn_get (x : Bf.G) (p : Nat) (j : Nat) : (nn x p).getD j 0 = (((x.nr p).getD j 0 : Nat) : Int) := by
  unfold nn
  rw [List.getD_eq_getElem?_getD, List.getD_eq_getElem?_getD, List.getElem?_map]
  cases (x.nr p)[j]? <;> rfl
def Pl.cells (y : Pl) : List Value := [.int .i64 (y.x.K : Int), .slice y.Ac y.x.n y.cc, .slice y.Aa y.x.K y.ca, .slice y.Ad y.x.K y.cd, .slice y.An y.x.n y.cn]
def Pl.v (y : Pl) : Value := .pointer (some ⟨y.B, 0, none⟩)
structure Pl.rd0 (w : World) (G : Nat → Prop) (y : Pl) : Prop where
  b : Rd w G (some ⟨y.B, 0, none⟩) y.cells
  c : Rd w G y.Ac (bls y.x.n y.x.cell)
  a : Rd w G y.Aa (slc2 y.x.K y.Xa (fun _ => y.x.n) y.ua)
  ar : ∀ k, k < y.x.K → Rd w G (y.Xa k) (bls y.x.n (y.x.al k))
  d : Rd w G y.Ad (slc2 y.x.K y.Xd (fun _ => y.x.n) y.ud)
  n : Rd w G y.An (slc2 y.x.n y.Xn (fun p => (y.x.nr p).length) y.un)
  nr : ∀ p, p < y.x.n → Rd w G (y.Xn p) (ints (nn y.x p))
def Pl.rdd (w : World) (G : Nat → Prop) (y : Pl) (D : Nat → Nat → Int) : Prop := ∀ k, k < y.x.K → Rd w G (y.Xd k) (iis y.x.n (D k))
def HP.dist (y : Pl) (D : Nat → Nat → Int) : HP := HP.rows 3 y.x.K y.Xd (fun _ => y.x.n) y.ud (fun k => iis y.x.n (D k))
def HP.pl0 (y : Pl) : HP := HP.bag [HP.blk y.B 93 y.cells, HP.row 4 1 y.Ac y.x.n y.cc (bls y.x.n y.x.cell), HP.row 89 1 y.Aa y.x.K y.ca (slc2 y.x.K y.Xa (fun _ => y.x.n) y.ua), HP.rows 4 y.x.K y.Xa (fun _ => y.x.n) y.ua (fun k => bls y.x.n (y.x.al k)),
  HP.row 31 1 y.Ad y.x.K y.cd (slc2 y.x.K y.Xd (fun _ => y.x.n) y.ud), HP.row 31 1 y.An y.x.n y.cn (slc2 y.x.n y.Xn (fun p => (y.x.nr p).length) y.un), HP.rows 3 y.x.n y.Xn (fun p => (y.x.nr p).length) y.un (fun p => ints (nn y.x p))]
def HP.plan (y : Pl) (D : Nat → Nat → Int) : HP := HP.bag [HP.pl0 y, HP.dist y D]
theorem Pl.rd0.mono {w : World} {S G : Nat → Prop} {y : Pl} (h : y.rd0 w S) (hg : ∀ k, S k → G k) : y.rd0 w G :=
  ⟨h.b.mono hg, h.c.mono hg, h.a.mono hg, fun k hk => (h.ar k hk).mono hg, h.d.mono hg, h.n.mono hg, fun k hk => (h.nr k hk).mono hg⟩
theorem Pl.rdd.mono {w : World} {S G : Nat → Prop} {y : Pl} {D : Nat → Nat → Int} (h : y.rdd w S D) (hg : ∀ k, S k → G k) : y.rdd w G D := fun k hk => (h k hk).mono hg
theorem pl0_rdS {w : World} {S : Nat → Prop} {y : Pl} (h : (HP.pl0 y).sem S w) : y.rd0 w S where
  b := bag_blk (T := 93) h (by simp)
  c := bag_row (Et := 4) (sz := 1) (m := y.x.n) (c := y.cc) h (by simp)
  a := bag_row (Et := 89) (sz := 1) (m := y.x.K) (c := y.ca) h (by simp)
  ar := fun k hk => bag_rows (Et := 4) (len := fun _ => y.x.n) (c := y.ua) (xs := fun k => bls y.x.n (y.x.al k)) h (by simp) hk
  d := bag_row (Et := 31) (sz := 1) (m := y.x.K) (c := y.cd) h (by simp)
  n := bag_row (Et := 31) (sz := 1) (m := y.x.n) (c := y.cn) h (by simp)
  nr := fun p hp => bag_rows (Et := 3) (len := fun p => (y.x.nr p).length) (c := y.un) (xs := fun p => ints (nn y.x p)) h (by simp) hp
theorem dist_rdS {w : World} {S : Nat → Prop} {y : Pl} {D : Nat → Nat → Int} (h : (HP.dist y D).sem S w) : y.rdd w S D := fun k hk => rows_rdS (xs := fun k => iis y.x.n (D k)) h hk
theorem plan_rdS {w : World} {S : Nat → Prop} {y : Pl} {D : Nat → Nat → Int} (h : (HP.plan y D).sem S w) : y.rd0 w S ∧ y.rdd w S D := by
  obtain ⟨S1, h1, h2⟩ := bag_memS (p := HP.pl0 y) (by simp) h
  obtain ⟨S2, h3, h4⟩ := bag_memS (p := HP.dist y D) (by simp) h
  exact ⟨(pl0_rdS h2).mono h1, (dist_rdS h4).mono h3⟩

section
variable {P : Program} {n : Fr} {w0 : World} {F : Nat → Prop} {K : Kt} {l : Env} {H : List HP} {o : Oper}
theorem HA.rd0 {w : World} (h : HA w0 F H w) {y : Pl} (hr : y.rd0 w0 F) : y.rd0 w (Old w) :=
  ⟨h.rd hr.b, h.rd hr.c, h.rd hr.a, fun k hk => h.rd (hr.ar k hk), h.rd hr.d, h.rd hr.n, fun k hk => h.rd (hr.nr k hk)⟩
theorem HA.rd0M {w : World} (h : HA w0 F H w) {y : Pl} (hr : y.rd0 w0 F) {S : Nat → Prop} (hb : ∀ k, S k → k < w.heap.size ∧ ¬ F k) : y.rd0 w (Fm w S) :=
  ⟨h.rdM hr.b hb, h.rdM hr.c hb, h.rdM hr.a hb, fun k hk => h.rdM (hr.ar k hk) hb, h.rdM hr.d hb, h.rdM hr.n hb, fun k hk => h.rdM (hr.nr k hk) hb⟩
theorem HA.rdd {w : World} (h : HA w0 F H w) {y : Pl} {D : Nat → Nat → Int} (hr : y.rdd w0 F D) : y.rdd w (Old w) D := fun k hk => h.rd (hr k hk)
/-! sources: from what the caller gave, from a chunk. -/
theorem sr0 {y : Pl} (hr : y.rd0 w0 F) : ∀ w, HA w0 F H w → y.rd0 w (Old w) := fun w hw => hw.rd0 hr
theorem srd {y : Pl} {D : Nat → Nat → Int} (hr : y.rdd w0 F D) : ∀ w, HA w0 F H w → y.rdd w (Old w) D := fun w hw => hw.rdd hr
theorem srdc {y : Pl} {D : Nat → Nat → Int} {i : Nat} {H' : List HP} (hi : sel H i = some (HP.dist y D, H')) : ∀ w, HA w0 F H w → y.rdd w (Old w) D := fun w hw => by
  obtain ⟨S, h1, h2⟩ := hw.at_ hi; exact (dist_rdS h1).mono fun k hk => (h2 k hk).1
theorem sr0p {y : Pl} {D : Nat → Nat → Int} {i : Nat} {H' : List HP} (hi : sel H i = some (HP.plan y D, H')) : ∀ w, HA w0 F H w → y.rd0 w (Old w) := fun w hw => by
  obtain ⟨S, h1, h2⟩ := hw.at_ hi; exact (plan_rdS h1).1.mono fun k hk => (h2 k hk).1
theorem srdp {y : Pl} {D : Nat → Nat → Int} {i : Nat} {H' : List HP} (hi : sel H i = some (HP.plan y D, H')) : ∀ w, HA w0 F H w → y.rdd w (Old w) D := fun w hw => by
  obtain ⟨S, h1, h2⟩ := hw.at_ hi; exact (plan_rdS h1).2.mono fun k hk => (h2 k hk).1
section
variable {y : Pl} {D : Nat → Nat → Int}
theorem p_b (h : ∀ w, HA w0 F H w → y.rd0 w (Old w)) : ∀ w, HA w0 F H w → Rd w (Old w) (some ⟨y.B, 0, none⟩) y.cells := fun w hw => (h w hw).b
theorem p_c (h : ∀ w, HA w0 F H w → y.rd0 w (Old w)) : ∀ w, HA w0 F H w → Rd w (Old w) y.Ac (bls y.x.n y.x.cell) := fun w hw => (h w hw).c
theorem p_a (h : ∀ w, HA w0 F H w → y.rd0 w (Old w)) : ∀ w, HA w0 F H w → Rd w (Old w) y.Aa (slc2 y.x.K y.Xa (fun _ => y.x.n) y.ua) := fun w hw => (h w hw).a
theorem p_ar (h : ∀ w, HA w0 F H w → y.rd0 w (Old w)) {k : Nat} (hk : k < y.x.K) : ∀ w, HA w0 F H w → Rd w (Old w) (y.Xa k) (bls y.x.n (y.x.al k)) := fun w hw => (h w hw).ar k hk
theorem p_d (h : ∀ w, HA w0 F H w → y.rd0 w (Old w)) : ∀ w, HA w0 F H w → Rd w (Old w) y.Ad (slc2 y.x.K y.Xd (fun _ => y.x.n) y.ud) := fun w hw => (h w hw).d
theorem p_n (h : ∀ w, HA w0 F H w → y.rd0 w (Old w)) : ∀ w, HA w0 F H w → Rd w (Old w) y.An (slc2 y.x.n y.Xn (fun p => (y.x.nr p).length) y.un) := fun w hw => (h w hw).n
theorem p_nr (h : ∀ w, HA w0 F H w → y.rd0 w (Old w)) {p : Nat} (hp : p < y.x.n) : ∀ w, HA w0 F H w → Rd w (Old w) (y.Xn p) (ints (nn y.x p)) := fun w hw => (h w hw).nr p hp
theorem p_dr (h : ∀ w, HA w0 F H w → y.rdd w (Old w) D) {k : Nat} (hk : k < y.x.K) : ∀ w, HA w0 F H w → Rd w (Old w) (y.Xd k) (iis y.x.n (D k)) := fun w hw => h w hw k hk
end
/-- a cell of a block that can be read. -/
theorem PV.load_at {t : TypeId} {x : Operand} {B j : Nat} {v : Value} {cs : List Value} (hR : ∀ w, HA w0 F H w → Rd w (Old w) (some ⟨B, 0, none⟩) cs) (ht : Na P t) (ho : o.op = .load t x) (hx : ev l x = some (.pointer (some ⟨B, j, none⟩)))
    (hv : cs[j]? = some v) : PV P n w0 F l H o v := by
  refine PV.load_of (A := some ⟨B, 0, none⟩) (k := j) hR ht ho ?_ hv
  rw [hx]
  unfold eptr
  simp only [Option.map_some]
  congr 3
  unfold Addr.add; split <;> simp_all
theorem PV.load_sc {t : TypeId} {x : Operand} {A : Option Addr} {k m N : Nat} {B : Nat → Option Addr} {c : Nat → Nat} (hR : ∀ w, HA w0 F H w → Rd w (Old w) A (slc2 m B (fun _ => N) c)) (ht : Na P t) (ho : o.op = .load t x) (hx : ev l x = some (eptr A k)) (hk : k < m) :
    PV P n w0 F l H o (.slice (B k) N (c k)) := PV.load_s2 hR ht ho hx hk
theorem PV.load_sn {t : TypeId} {x : Operand} {A : Option Addr} {k m : Nat} {g : Bf.G} {B : Nat → Option Addr} {c : Nat → Nat} (hR : ∀ w, HA w0 F H w → Rd w (Old w) A (slc2 m B (fun p => (g.nr p).length) c)) (ht : Na P t) (ho : o.op = .load t x) (hx : ev l x = some (eptr A k)) (hk : k < m) :
    PV P n w0 F l H o (.slice (B k) (g.nr k).length (c k)) := PV.load_s2 hR ht ho hx hk
theorem PV.load_nn {t : TypeId} {x : Operand} {A : Option Addr} {j p : Nat} {g : Bf.G} (hR : ∀ w, HA w0 F H w → Rd w (Old w) A (ints (nn g p))) (ht : Na P t) (ho : o.op = .load t x) (hx : ev l x = some (eptr A j)) (hj : j < (g.nr p).length) :
    PV P n w0 F l H o (.int .i64 (((g.nr p).getD j 0 : Nat) : Int)) := by
  have h := PV.load_int (P := P) (n := n) hR ht ho hx (by simpa using hj)
  rwa [nn_get] at h

/-! ### The queue -/
def qI (q : List (Nat × Nat)) : List (Int × Int) := q.map fun s => ((s.1 : Int), (s.2 : Int))
@[simp] theorem qI_length (q : List (Nat × Nat)) : (qI q).length = q.length := by simp [qI]
theorem qI_get (q : List (Nat × Nat)) (j : Nat) : (qI q).getD j (0, 0) = (((Bf.at_ q j).1 : Int), ((Bf.at_ q j).2 : Int)) := by
  unfold qI Bf.at_
  rw [List.getD_eq_getElem?_getD, List.getD_eq_getElem?_getD, List.getElem?_map]
  cases q[j]? <;> rfl
theorem qI_snoc (q : List (Nat × Nat)) (p k : Nat) : pairs (qI (q ++ [(p, k)])) = pairs (qI q) ++ [.int .i64 (p : Int), .int .i64 (k : Int)] := by
  have : ∀ a b : List (Int × Int), pairs (a ++ b) = pairs a ++ pairs b := by
    intro a b
    induction a with
    | nil => rfl
    | cons x r ih => simp only [List.cons_append, pairs, ih]
  simp only [qI, List.map_append, List.map_cons, List.map_nil, this]
  rfl
def HP.que (B : Nat) (q : List (Nat × Nat)) (h : Nat) : HP where
  sem S w := ∃ A c, (HP.bag [HP.blk B 151 [.slice A q.length c, .int .i64 (h : Int)], HP.row 154 2 A q.length c (pairs (qI q))]).sem S w
  loc := fun S w w' h ⟨A, c, hb⟩ => ⟨A, c, (HP.bag _).loc S w w' h hb⟩
theorem OW.cvt {ops : Array Oper} {rest : List Oper} {H' : List HP} (h : ∀ w U, Chunks w U H → Chunks w U H') (k : OW P n w0 F ops K rest l H') : OW P n w0 F ops K rest l H := fun a w ha hw => k a w ha { hw with chunks := h w _ hw.chunks }
theorem AW.conv {ops : Array Oper} {HS H' : List HP} {fuel : Nat} {listed : Array Bool} (h : ∀ w U, Chunks w U H → Chunks w U H') (k : AW P n w0 F ops K HS fuel listed l H') : AW P n w0 F ops K HS fuel listed l H := fun a w ha hw => k a w ha { hw with chunks := h w _ hw.chunks }
theorem cv_chunk (i : Nat) {p : HP} (p' : HP) {H' : List HP} (hi : sel H i = some (p, H')) (he : p = p') : ∀ w U, Chunks w U H → Chunks w U (p' :: H') := fun _ _ h => he ▸ h.perm (sel_perm hi)
theorem cv_gather (is : List Nat) (m : Nat) {H1 ps r : List HP} (hs : E.sels H is = some H1) (h2 : spl H1 m = some (ps, r)) : ∀ w U, Chunks w U H → Chunks w U (HP.bag ps :: r) := fun w U h => by
  have h3 := sels_chunks hs h
  rw [spl_eq h2] at h3
  exact h3.gather
theorem cv_quein {q : List (Nat × Nat)} (i j : Nat) {B cc h m : Nat} {A : Option Addr} {xs : List Value} {H1 H2 : List HP} (hi : sel H i = some (HP.blk B 151 [.slice A m cc, .int .i64 (h : Int)], H1)) (hj : sel H1 j = some (HP.row 154 2 A m cc xs, H2)) (hm : m = q.length) (hx : xs = pairs (qI q)) :
    ∀ w U, Chunks w U H → Chunks w U (HP.que B q h :: H2) := fun w U hc => by
  subst hm hx
  have h1 := hc.perm ((sel_perm hi).trans ((sel_perm hj).cons _))
  obtain ⟨S, g1, g2, g3⟩ := Chunks.gather (ps := [HP.blk B 151 [.slice A q.length cc, .int .i64 (h : Int)], HP.row 154 2 A q.length cc (pairs (qI q))]) (r := H2) h1
  exact ⟨S, ⟨A, cc, g1⟩, g2, g3⟩
theorem dist_upd (y : Pl) (D : Nat → Nat → Int) (k p : Nat) (m : Int) : HP.rows 3 y.x.K y.Xd (fun _ => y.x.n) y.ud (fun k' => iis y.x.n (up D k (up (D k) p m) k')) = HP.dist y (Bf.upd D k p m) := by
  unfold HP.dist
  congr 1
  funext k'
  congr 1
  funext i
  unfold up Bf.upd
  by_cases h1 : k' = k
  · subst h1
    by_cases h2 : i = p
    · subst h2; simp
    · simp [h2]
  · simp [h1]
/-- a call of a function value that has captured something, and may turn the chunk i. -/
theorem OW.callcM {ops : Array Oper} {o : Oper} {rest : List Oper} {d : Nat} {f : Nat} {fo : Operand} {xs : List Operand} {ts : Array TypeId} {vs caps : List Value} (hf : Nm P f)
    (hg : gd ops l o.guard = some true) (hd : o.dst = some d) (hn : Nat.blt d n.sz = true) (ho : o.op = .call { callee := .value fo, args := xs.toArray, argTypes := ts })
    (hfo : ev l fo = some (.func (.func f) #[] caps.toArray)) (hx : evs l xs = some vs) (R : Value → List HP → Prop) (i : Nat) {p : HP} {H' : List HP} (hi : E.sel H i = some (p, H'))
    (h : ∀ w S, HA w0 F (p :: H') w → p.sem S w → (∀ k, S k → k < w.heap.size ∧ ¬ F k) → Chunks w (fun k => F k ∨ S k) H' → Calls P f (vs ++ caps).toArray w (Post w (fun k => k < w.heap.size ∧ ¬ S k) R))
    (k : ∀ v Hn, R v Hn → OW P n w0 F ops K rest ((d, v) :: l) (Hn ++ H')) : OW P n w0 F ops K (o :: rest) l H := fun a w ha hw => by
  refine wpListIn_step fun K' hK' => ?_
  rw [if_pos (ha.wanted hg)]
  refine wi_enter (run_callc hf (ha.ev hfo) ho (ha.evs hx)) ?_
  have hw1 := hw.perm (sel_perm hi)
  obtain ⟨S, h1, h2, h3⟩ := hw1.chunks
  have hcall := h w S hw1 h1 h2 h3
  rw [show (vs ++ caps).toArray = vs.toArray ++ caps.toArray by simp] at hcall
  refine hcall.mono fun e w' ⟨v, Hn, he, hR, hw'⟩ => ?_
  refine ⟨v, he, ?_⟩
  rw [hd]
  refine hK' _ _ (k v Hn hR _ _ (ha.put hn v) ?_)
  have hF : ∀ k, F k → k < w.heap.size ∧ ¬ S k := fun k hf => ⟨Nat.lt_of_lt_of_le (hw.flt k hf) hw.size, fun hs => (h2 k hs).2 hf⟩
  refine ⟨hw'.os.trans hw.os, hw'.tape.trans hw.tape, hw'.output.trans hw.output, Nat.le_trans hw.size hw'.size, hw.flt, fun k hf => (hw'.kept k (hF k hf)).trans (hw.kept k hf), ?_⟩
  refine Chunks.app (G := fun k => k < w.heap.size ∧ ¬ S k) ?_ ?_
  · exact hw'.chunks.congr fun k => ⟨.inr, fun hk' => hk'.elim (hF k) id⟩
  · exact ChunksB.of (w := w) hw'.size (fun k hk' => hw'.kept k hk') (U := fun k => F k ∨ S k) (fun k hlt hn => ⟨hlt, fun hs => hn (.inr hs)⟩) (fun k hf => .inl hf) h3
/-! what can be read while the chunk S may turn. -/
theorem rd0_in {w : World} {S : Nat → Prop} {H' H2 : List HP} {y : Pl} {i : Nat} (hc : Chunks w (fun k => F k ∨ S k) H') (hi : sel H' i = some (HP.pl0 y, H2)) : y.rd0 w (Fm w S) := by
  obtain ⟨T, h1, h2⟩ := hc.at_ hi
  exact (pl0_rdS h1).mono fun k hk => ⟨(h2 k hk).1, fun hs => (h2 k hk).2 (.inr hs)⟩
theorem blk_in {w : World} {S : Nat → Prop} {H' H2 : List HP} {B T : Nat} {cs : List Value} {i : Nat} (hc : Chunks w (fun k => F k ∨ S k) H') (hi : sel H' i = some (HP.blk B T cs, H2)) : Rd w (Fm w S) (some ⟨B, 0, none⟩) cs := by
  obtain ⟨T, h1, h2⟩ := hc.at_ hi
  exact (blk_rdS h1).mono fun k hk => ⟨(h2 k hk).1, fun hs => (h2 k hk).2 (.inr hs)⟩
theorem CW.queout {c : Code} (i : Nat) {B h : Nat} {q : List (Nat × Nat)} {H1 : List HP} (hi : sel H i = some (HP.que B q h, H1)) (k : ∀ A cc, CW P n w0 F c K l (HP.blk B 151 [.slice A q.length cc, .int .i64 (h : Int)] :: HP.row 154 2 A q.length cc (pairs (qI q)) :: H1)) : CW P n w0 F c K l H := fun a w ha hw => by
  have h1 := hw.sel hi
  obtain ⟨S, ⟨A, cc, g1⟩, g2, g3⟩ := h1.chunks
  exact k A cc a w ha { h1 with chunks := Chunks.open (ps := [HP.blk B 151 [.slice A q.length cc, .int .i64 (h : Int)], HP.row 154 2 A q.length cc (pairs (qI q))]) ⟨S, g1, g2, g3⟩ }
end
end E
end Go.Proofs.Ytflkbabhbnmajaa

/- Laws about configs, plainly: one cell, entry or spot replaced, the order of spots, projections compared. No program in sight. -/
namespace Go.Proofs.Ytflkbabhbnmajaa
set_option linter.unusedSimpArgs false
set_option linter.unusedVariables false
namespace Cf
open Go
theorem teamsOk_iff {g : C} : teamsOk g = true ↔ (1 ≤ g.ts.length ∧ g.ts.length ≤ 3) ∧ (∀ j, j < g.ts.length → teamOk g j = true) ∧ (g.l.all (belongs g.ts) = true ∧ g.s.all (belongs g.ts) = true) ∧ (List.range g.ts.length).any (fun j => !absent (g.ts.getD j T.z)) = true := by
  unfold teamsOk
  simp only [Bool.and_eq_true, decide_eq_true_eq]
  rw [List.all_eq_true]
  simp only [List.mem_range]
  constructor
  · rintro ⟨⟨⟨⟨⟨a, b⟩, c⟩, d⟩, e⟩, f⟩; exact ⟨⟨a, b⟩, c, ⟨d, e⟩, f⟩
  · rintro ⟨⟨a, b⟩, c, ⟨d, e⟩, f⟩; exact ⟨⟨⟨⟨⟨a, b⟩, c⟩, d⟩, e⟩, f⟩
theorem check_iff {g : C} : check g = 0 ↔ Fl.validF g.a g.b g.l = true ∧ Fl.validS g.s = true ∧ teamsOk g = true ∧ g.st ≤ 4611686018427387904 := by
  constructor
  · exact check_zero
  · rintro ⟨h1, h2, h3, h4⟩
    unfold check
    rw [if_pos h1, if_pos h2, if_pos h3, if_pos h4]
/-! ### One entry of the slice table replaced -/
/-! ### One cell replaced -/
def SpotAt (ts : List T) (p s : Int) : Prop := (s = -1 ∧ ∀ j, j < ts.length → ¬ p ∈ spots (ts.getD j T.z)) ∨ ∃ t : Nat, s = t ∧ t < ts.length ∧ p ∈ spots (ts.getD t T.z)
theorem own_dec {t : Int} {v : UInt8} (ht : 0 ≤ t ∧ t < 3) : Fl.own t v = decide ((v.toNat : Int) = t + 1) := by
  unfold Fl.own; rw [decide_eq_true ht.1, decide_eq_true ht.2]; rfl
/-! ### Projections compared -/
def agr (g h : C) (t : Nat) : Prop := (g.a = h.a ∧ g.b = h.b ∧ g.s.length = h.s.length ∧ g.ts.length = h.ts.length ∧ g.st = h.st ∧ g.ts.getD t T.z = h.ts.getD t T.z) ∧
  (∀ p, p < g.l.length → (Fl.own t (g.l.getD p 0) = Fl.own t (h.l.getD p 0) ∧ decide (Fl.ownerC (g.l.getD p 0) = -2) = decide (Fl.ownerC (h.l.getD p 0) = -2))) ∧ ∀ i, i < g.s.length → (((g.s.getD i 0).toNat : Int) = t + 1 ↔ ((h.s.getD i 0).toNat : Int) = t + 1)
instance (g h : C) (t : Nat) : Decidable (agr g h t) := by unfold agr; infer_instance
/-! ### The order of spots -/
def swp (l : List Int) (a b : Nat) : List Int := (l.set a (l.getD b 0)).set b (l.getD a 0)
theorem belongs_yes0 {ts : List T} {x : UInt8} (h : (x.toNat : Int) = 0) : belongs ts x = true := by unfold belongs; rw [decide_eq_true h]; rfl
theorem belongs_yes255 {ts : List T} {x : UInt8} (h : (x.toNat : Int) = 255) : belongs ts x = true := by unfold belongs; rw [decide_eq_true h, Bool.or_true]; rfl
theorem belongs_yes {ts : List T} {x : UInt8} (h : present ts ((x.toNat : Int) - 1) = true) : belongs ts x = true := by unfold belongs; rw [h, Bool.or_true]
theorem spots_small {m : T} (h : small m) : (spots m).length ≤ 9 := by rw [spots_len]; obtain ⟨a, b, c⟩ := h; omega
theorem onlyR_yes {g : C} {t : Int} (hg : check g = 0) (hp : present g.ts t = true) : onlyR g t = (only g t, 0) := (if_pos hg).trans (if_pos hp)
end Cf
namespace E
open Go Go.RowKit
section
variable {P : Program} {n : Fr} {w0 : World} {F : Nat → Prop} {K : Kt} {l : Env} {H : List HP} {o : Oper}
end
end E
end Go.Proofs.Ytflkbabhbnmajaa

/- More laws about configs, plainly: the present tenants, the spots of two tenants, projections, encodings. No program in sight. -/
namespace Go.Proofs.Ytflkbabhbnmajaa
set_option linter.unusedSimpArgs false
set_option linter.unusedVariables false
namespace Cf
open Go
section
variable {g : C} {k : Nat}
theorem teamsOk_of (h : check g = 0) : teamsOk g = true := (check_zero h).2.2.1
theorem team_at (h : check g = 0) (hk : k < g.ts.length) : absent (g.ts.getD k T.z) = true ∨ validTeam g.l k (g.ts.getD k T.z) = true := by
  have := (teamsOk_iff.1 (teamsOk_of h)).2.1 k hk
  unfold teamOk at this
  rwa [Bool.or_eq_true] at this
theorem tenants_pos (h : check g = 0) : 1 ≤ (tenants g.ts g.ts.length).length := by
  have h1 := (teamsOk_iff.1 (teamsOk_of h)).2.2.2
  rw [any_tenants, Bool.not_eq_true', decide_eq_false_iff_not] at h1
  omega
theorem tenants_ok (h : check g = 0) : tenantsR g = (tenants g.ts g.ts.length, 0) := if_pos h
end
/-! ### The spots of valid teams -/
section
variable {a b : Int} {l : List UInt8} {t : Int} {m : T}
theorem valid_nodup (h : validTeam l t m = true) : (spots m).Nodup := by
  unfold validTeam at h
  simp only [Bool.and_eq_true, decide_eq_true_eq] at h
  exact h.2
end
/-! ### One spot replaced -/
def repl (m : T) (i : Nat) (p : Int) : T := if i < m.h.length then ⟨m.h.set i p, m.p, m.d, m.n1, m.n2, m.n3, m.n4, m.n5⟩
  else if i - m.h.length < m.p.length then ⟨m.h, m.p.set (i - m.h.length) p, m.d, m.n1, m.n2, m.n3, m.n4, m.n5⟩
  else ⟨m.h, m.p, m.d.set (i - m.h.length - m.p.length) p, m.n1, m.n2, m.n3, m.n4, m.n5⟩
def oth (l : List Int) (ix p : Int) (k : Nat) : Bool := (List.range k).all fun j => decide ((j : Int) = ix) || !decide (l.getD j 0 = p)
section
variable {A : Bool} {l : List Int} {ix p : Int} {k : Nat}
end
end Cf
end Go.Proofs.Ytflkbabhbnmajaa

/- Projections, plainly: valid, of one tenant, their own projections. No program in sight. -/
namespace Go.Proofs.Ytflkbabhbnmajaa
set_option linter.unusedSimpArgs false
set_option linter.unusedVariables false
namespace Cf
open Go
theorem oc_nat (t : Int) (x : UInt8) : (oc t x).toNat = if (x.toNat : Int) = t + 1 ∨ (x.toNat : Int) = 255 then x.toNat else 0 := by unfold oc; split <;> rfl
theorem os_nat (t : Int) (x : UInt8) : (os t x).toNat = if (x.toNat : Int) = t + 1 then x.toNat else 0 := by unfold os; split <;> rfl
theorem oc_zero (t : Int) : oc t 0 = 0 := by unfold oc; split <;> rfl
theorem os_zero (t : Int) : os t 0 = 0 := by unfold os; split <;> rfl
theorem getD_map {f : UInt8 → UInt8} (h : f 0 = 0) (l : List UInt8) (i : Nat) : (l.map f).getD i 0 = f (l.getD i 0) := by
  rw [List.getD_eq_getElem?_getD, List.getD_eq_getElem?_getD, List.getElem?_map]
  cases l[i]? with
  | none => exact h.symm
  | some x => rfl
theorem okc_oc {t : Int} {x : UInt8} (h : Fl.okc x = true) : Fl.okc (oc t x) = true := by
  unfold oc
  split
  · exact h
  · rfl
theorem own_oc {t : Int} (ht : 0 ≤ t ∧ t < 3) (x : UInt8) : Fl.own t (oc t x) = Fl.own t x := by
  rw [own_dec ht, own_dec ht]
  refine decide_eq_decide.2 ?_
  rw [oc_nat]
  split
  · exact Iff.rfl
  · omega
theorem aisle_oc {t : Int} (ht : 0 ≤ t ∧ t < 3) (x : UInt8) : decide (Fl.ownerC (oc t x) = -2) = decide (Fl.ownerC x = -2) := by
  rw [← Fl.aisle_iff, ← Fl.aisle_iff]
  refine decide_eq_decide.2 ?_
  rw [oc_nat]
  split
  · exact Iff.rfl
  · omega
theorem ownAt_map {l : List UInt8} {t : Int} (ht : 0 ≤ t ∧ t < 3) (p : Int) : ownAt (l.map (oc t)) t p = ownAt l t p := by
  unfold ownAt
  rw [List.length_map, getD_map (oc_zero t), own_oc ht]
theorem validTeam_map {l : List UInt8} {t : Int} {m : T} (ht : 0 ≤ t ∧ t < 3) : validTeam (l.map (oc t)) t m = validTeam l t m := by
  unfold validTeam
  rw [show ownAt (l.map (oc t)) t = ownAt l t from funext fun p => ownAt_map ht p]
theorem one_len (ts : List T) (t : Int) (k : Nat) : (oneTeam ts t k).length = k := by simp [oneTeam]
theorem one_getD {ts : List T} {t : Int} {k j : Nat} (hj : j < k) : (oneTeam ts t k).getD j T.z = if (j : Int) = t then ts.getD j T.z else T.z := by
  unfold oneTeam
  rw [List.getD_eq_getElem?_getD, List.getElem?_map, List.getElem?_range hj]
  rfl
theorem absent_z : absent T.z = true := decide_eq_true rfl
theorem one_present {ts : List T} {t u : Int} (h : present ts t = true) : present (oneTeam ts t ts.length) u = decide (u = t) := by
  have hb := present_b h
  unfold present at h ⊢
  simp only [Bool.and_eq_true, decide_eq_true_eq, Bool.not_eq_true'] at h
  rw [one_len]
  by_cases hu : 0 ≤ u ∧ u < ts.length
  · rw [decide_eq_true hu.1, decide_eq_true hu.2, one_getD (by omega)]
    by_cases he : u = t
    · subst he
      rw [if_pos (by omega), h.2, decide_eq_true rfl]; rfl
    · rw [if_neg (by omega), absent_z, decide_eq_false he]; rfl
  · rw [← Bool.decide_and, decide_eq_false hu, decide_eq_false (by omega)]; rfl
section
variable {g : C} {t : Int}
theorem only_b (h : check g = 0) (hp : present g.ts t = true) : (0 ≤ t ∧ t < 3) ∧ t < g.ts.length := by
  have h1 := teams_len (teamsOk_of h)
  have h2 := present_b hp
  omega
theorem only_valid (h : check g = 0) (hp : present g.ts t = true) : Fl.validF (only g t).a (only g t).b (only g t).l = true := by
  have hv := Fl.validF_iff.1 (check_zero h).1
  refine Fl.validF_iff.2 ⟨⟨hv.1.1, by show ((g.l.map (oc t)).length : Int) = _; rw [List.length_map]; exact hv.1.2⟩, fun c hc => ?_⟩
  obtain ⟨x, hx, rfl⟩ := List.mem_map.1 hc
  exact okc_oc (hv.2 x hx)
theorem only_check (h : check g = 0) (hp : present g.ts t = true) : check (only g t) = 0 := by
  obtain ⟨h1, h2, h3, h4⟩ := check_zero h
  obtain ⟨hb, hlt⟩ := only_b h hp
  obtain ⟨q1, q2, ⟨q3, q4⟩, q5⟩ := teamsOk_iff.1 h3
  have hbel : ∀ v : UInt8, (v.toNat : Int) = 0 ∨ (v.toNat : Int) = 255 ∨ (v.toNat : Int) = t + 1 → belongs (oneTeam g.ts t g.ts.length) v = true := fun v hv => by
    rcases hv with hv | hv | hv
    · exact belongs_yes0 hv
    · exact belongs_yes255 hv
    · exact belongs_yes (by rw [one_present hp]; exact decide_eq_true (by omega))
  refine check_iff.2 ⟨only_valid h hp, ?_, ?_, h4⟩
  · obtain ⟨s1, s2⟩ := Fl.validS_iff.1 h2
    refine Fl.validS_iff.2 ⟨by show 1 ≤ (g.s.map (os t)).length ∧ (g.s.map (os t)).length ≤ 16; rw [List.length_map]; exact s1, fun c hc => ?_⟩
    obtain ⟨x, hx, rfl⟩ := List.mem_map.1 hc
    have := s2 x hx
    rw [os_nat]
    split <;> omega
  · refine teamsOk_iff.2 ⟨?_, fun j hj => ?_, ⟨?_, ?_⟩, ?_⟩
    · show 1 ≤ (oneTeam g.ts t g.ts.length).length ∧ (oneTeam g.ts t g.ts.length).length ≤ 3
      rw [one_len]; exact q1
    · have hj2 : j < g.ts.length := by
        have hj3 : j < (oneTeam g.ts t g.ts.length).length := hj
        rwa [one_len] at hj3
      unfold teamOk
      show (absent ((oneTeam g.ts t g.ts.length).getD j T.z) || validTeam (g.l.map (oc t)) j ((oneTeam g.ts t g.ts.length).getD j T.z)) = true
      rw [one_getD hj2]
      by_cases he : (j : Int) = t
      · rw [if_pos he, he, validTeam_map hb]
        have := q2 j hj2
        unfold teamOk at this
        rw [he] at this
        exact this
      · rw [if_neg he, absent_z]; rfl
    · refine List.all_eq_true.2 fun c hc => ?_
      obtain ⟨x, hx, rfl⟩ := List.mem_map.1 hc
      refine hbel _ ?_
      rw [oc_nat]
      split <;> omega
    · refine List.all_eq_true.2 fun c hc => ?_
      obtain ⟨x, hx, rfl⟩ := List.mem_map.1 hc
      refine hbel _ ?_
      rw [os_nat]
      split <;> omega
    · refine List.any_eq_true.2 ⟨t.toNat, List.mem_range.2 (by show t.toNat < (oneTeam g.ts t g.ts.length).length; rw [one_len]; omega), ?_⟩
      show (!absent ((oneTeam g.ts t g.ts.length).getD t.toNat T.z)) = true
      rw [one_getD (by omega), if_pos (by omega)]
      unfold present at hp
      simp only [Bool.and_eq_true] at hp
      exact hp.2
theorem only_present (hp : present g.ts t = true) : present (only g t).ts t = true := by
  show present (oneTeam g.ts t g.ts.length) t = true
  rw [one_present hp]; exact decide_eq_true rfl
theorem os_own (h0 : 0 ≤ t) (i : Nat) : ((((g.s.getD i 0).toNat : Int) - 1 = t) ↔ ((((only g t).s.getD i 0).toNat : Int) - 1 = t)) ∧ ((((only g t).s.getD i 0).toNat : Int) - 1 = t ∨ (((only g t).s.getD i 0).toNat : Int) - 1 = -1) := by
  show ((((g.s.getD i 0).toNat : Int) - 1 = t) ↔ ((((g.s.map (os t)).getD i 0).toNat : Int) - 1 = t)) ∧ ((((g.s.map (os t)).getD i 0).toNat : Int) - 1 = t ∨ (((g.s.map (os t)).getD i 0).toNat : Int) - 1 = -1)
  rw [getD_map (os_zero t), os_nat]
  split <;> omega
theorem only_team (h : check g = 0) (hp : present g.ts t = true) : (only g t).ts.getD t.toNat T.z = g.ts.getD t.toNat T.z := by
  have hb := only_b h hp
  show (oneTeam g.ts t g.ts.length).getD t.toNat T.z = _
  rw [one_getD (by omega), if_pos (by omega)]
end
end Cf
end Go.Proofs.Ytflkbabhbnmajaa

/- The plan of a leg, plainly: places and their neighbours, cells, allowed places, arrivals. No program in sight. -/
set_option linter.unusedSimpArgs false
set_option linter.unusedVariables false
namespace Go.Proofs.Ytflkbabhbnmajaa
namespace Rt
open Cf
/-- a place, and its neighbours in the first d directions. -/
def nearTo (a b p : Int) (d : Nat) : List Int := p :: (((List.range d).map fun (i : Nat) => Fl.mv a b p (i : Int)).filter fun q => decide (0 ≤ q))
def nearI (a b p : Int) : List Int := nearTo a b p 4
theorem near_first (a b p : Int) : nearI a b p = [] ++ p :: (((List.range 4).map fun (i : Nat) => Fl.mv a b p (i : Int)).filter fun q => decide (0 ≤ q)) := rfl
theorem near_yes {a b p : Int} {d : Nat} (h : 0 ≤ Fl.mv a b p d) : nearTo a b p (d + 1) = nearTo a b p d ++ [Fl.mv a b p d] := by
  unfold nearTo
  rw [List.range_succ, List.map_append, List.filter_append, List.map_cons, List.map_nil, List.filter_cons, decide_eq_true h]
  rfl
theorem near_no {a b p : Int} {d : Nat} (h : Fl.mv a b p d < 0) : nearTo a b p (d + 1) = nearTo a b p d := by
  unfold nearTo
  rw [List.range_succ, List.map_append, List.filter_append, List.map_cons, List.map_nil, List.filter_cons, decide_eq_false (by omega)]
  simp
theorem near_more (a b p : Int) (d : Nat) : ∀ j, ∃ r, nearTo a b p (d + j) = nearTo a b p d ++ r := by
  intro j
  induction j with
  | zero => exact ⟨[], by simp⟩
  | succ j ih =>
    obtain ⟨r, hr⟩ := ih
    rcases Int.lt_or_le (Fl.mv a b p ((d + j : Nat) : Int)) 0 with h | h
    · exact ⟨r, by rw [← Nat.add_assoc, near_no h, hr]⟩
    · exact ⟨r ++ [Fl.mv a b p ((d + j : Nat) : Int)], by rw [← Nat.add_assoc, near_yes h, hr, List.append_assoc]⟩
theorem near_at {a b p : Int} {d : Nat} (hd : d < 4) (h : 0 ≤ Fl.mv a b p d) : ∃ r, nearI a b p = nearTo a b p d ++ Fl.mv a b p d :: r := by
  obtain ⟨r, hr⟩ := near_more a b p (d + 1) (4 - (d + 1))
  rw [show d + 1 + (4 - (d + 1)) = 4 by omega, near_yes h, List.append_assoc] at hr
  exact ⟨r, hr⟩
theorem near_mem {a b p q : Int} : q ∈ nearI a b p ↔ q = p ∨ ∃ d : Nat, d < 4 ∧ Fl.mv a b p d = q ∧ 0 ≤ q := by
  unfold nearI nearTo
  simp only [List.mem_cons, List.mem_filter, List.mem_map, List.mem_range, decide_eq_true_eq]
  constructor
  · rintro (h | ⟨⟨d, h1, h2⟩, h3⟩)
    · exact .inl h
    · exact .inr ⟨d, h1, h2, h3⟩
  · rintro (h | ⟨d, h1, h2, h3⟩)
    · exact .inl h
    · exact .inr ⟨⟨d, h1, h2⟩, h3⟩
theorem near_len (a b p : Int) (d : Nat) : (nearTo a b p d).length ≤ d + 1 := by
  unfold nearTo
  have := List.length_filter_le (fun q : Int => decide (0 ≤ q)) ((List.range d).map fun (i : Nat) => Fl.mv a b p (i : Int))
  simp only [List.length_map, List.length_range] at this
  simp only [List.length_cons]; omega
def sides (a b : Int) : Prop := 2 ≤ a ∧ a ≤ 8 ∧ 2 ≤ b ∧ b ≤ 8
theorem near_in {a b p q : Int} (hs : sides a b) (hp : 0 ≤ p ∧ p < a * b) (h : q ∈ nearI a b p) : 0 ≤ q ∧ q < a * b := by
  rcases near_mem.1 h with rfl | ⟨d, _, rfl, h3⟩
  · exact hp
  · exact ⟨h3, Fl.mv_ge hs h3⟩
theorem near_sym {a b p q : Int} (hs : sides a b) (hp : 0 ≤ p ∧ p < a * b) (h : q ∈ nearI a b p) : p ∈ nearI a b q := by
  have hq := near_in hs hp h
  rcases near_mem.1 h with rfl | ⟨d, h1, h2, h3⟩
  · exact h
  · have h4 := (Fl.dist_one hs hp hq).2 ⟨d, h1, h2⟩
    rw [Fl.dist_comm] at h4
    obtain ⟨e, h5, h6⟩ := (Fl.dist_one hs hq hp).1 h4
    exact near_mem.2 (.inr ⟨e, h5, h6, hp.1⟩)
/-! ### The plan of a leg -/
def team (g : C) (t : Int) : T := g.ts.getD t.toNat T.z
def mine (g : C) (t p : Int) : Bool := decide (owner g p = t)
def aisle (g : C) (p : Int) : Bool := decide (owner g p = -2)
def has (g : C) (t a b p : Int) : Bool := decide (p = a) || decide (p = b) || aisle g p || (mine g t p && !decide (p ∈ spots (team g t)))
def alw (g : C) (t a b tick p : Int) : Bool := has g t a b p && (mine g t p || (aisle g p && decide ((Fl.sliceOwner g.s tick).1 = t)))
def near (g : C) (p : Nat) : List Nat := (nearI g.a g.b p).map Int.toNat
def G (g : C) (t a b : Int) : Bf.G := ⟨g.l.length, g.s.length, fun p => has g t a b p, fun k p => alw g t a b (k : Int) (p : Int), near g, b.toNat⟩
structure Leg (g : C) (t a b : Int) : Prop where
  c : check g = 0
  p : present g.ts t = true
  ra : 0 ≤ a ∧ a < g.l.length
  rb : 0 ≤ b ∧ b < g.l.length
  ob : owner g b = t
  oa : owner g a = t ∨ owner g a = -2
theorem sides_of {g : C} (h : check g = 0) : sides g.a g.b := Fl.valid_iff.1 (Fl.validF_iff.1 (check_zero h).1).1.1
theorem len_of {g : C} (h : check g = 0) : (g.l.length : Int) = g.a * g.b := (Fl.validF_iff.1 (check_zero h).1).1.2
theorem len_le {g : C} (h : check g = 0) : g.l.length ≤ 64 := Fl.validF_len (check_zero h).1
theorem per_of {g : C} (h : check g = 0) : 1 ≤ g.s.length ∧ g.s.length ≤ 16 := (Fl.validS_iff.1 (check_zero h).2.1).1
theorem owner_off {g : C} (h : check g = 0) {p : Int} (hp : ¬ (0 ≤ p ∧ p < g.l.length)) : owner g p = -1 := by
  unfold owner Fl.owner
  have hs := sides_of h
  rw [if_pos (check_zero h).1, if_neg (c := Fl.has g.a g.b p = true) (fun hh => hp (by have := (Fl.has_iff.1 hh).2; have := len_of h; omega))]
  rfl
theorem owner_on {g : C} (h : check g = 0) {p : Int} (hp : 0 ≤ p ∧ p < g.l.length) : owner g p = Fl.ownerC (g.l.getD p.toNat 0) := by
  unfold owner Fl.owner
  rw [if_pos (check_zero h).1, if_pos (Fl.has_iff.2 ⟨sides_of h, by have := len_of h; omega⟩)]
  rfl
theorem pres_lt {ts : List T} {t : Int} (h : present ts t = true) : 0 ≤ t ∧ t < ts.length := by
  unfold present at h
  simp only [Bool.and_eq_true, decide_eq_true_eq] at h
  exact h.1
/-- legError finds nothing: it is a leg. -/
theorem leg_of {g : C} {t a b tick : Int} (h : legE g t a b tick = 0) : Leg g t a b ∧ tick ≤ 4611686018427389952 := by
  unfold legE at h
  split at h
  · rename_i h0
    split at h
    · rename_i h1
      unfold asked at h0
      split at h0
      · rename_i hc
        split at h0
        · rename_i hp
          have ht := pres_lt hp.1
          unfold onLeg at h1
          simp only [Bool.and_eq_true, Bool.or_eq_true, decide_eq_true_eq] at h1
          refine ⟨⟨hc, hp.1, ?_, ?_, h1.1, h1.2⟩, hp.2⟩
          · refine Decidable.byContradiction fun hn => ?_
            have := owner_off hc hn
            omega
          · refine Decidable.byContradiction fun hn => ?_
            have := owner_off hc hn
            omega
        · exact absurd h0 (by decide)
      · rename_i hc; exact absurd h0 hc
    · exact absurd h (by decide)
  · rename_i h0; exact absurd h h0
theorem leg_err {g : C} {t a b tick : Int} (h : Leg g t a b) (ht : tick ≤ 4611686018427389952) : legE g t a b tick = 0 := by
  unfold legE
  rw [if_pos (asked_ok h.c h.p ht), if_pos]
  unfold onLeg
  simp only [Bool.and_eq_true, Bool.or_eq_true, decide_eq_true_eq]
  exact ⟨h.ob, h.oa⟩
theorem Leg.ten {g : C} {t a b : Int} (h : Leg g t a b) : 0 ≤ t ∧ t < 3 ∧ t.toNat < g.ts.length := by
  have h1 := pres_lt h.p
  have h2 := teams_len (check_zero h.c).2.2.1
  omega
theorem Leg.valid {g : C} {t a b : Int} (h : Leg g t a b) : validTeam g.l t (team g t) = true := by
  have h1 := h.ten
  have h2 := team_at h.c h1.2.2
  have h3 := h.p
  unfold present at h3
  simp only [Bool.and_eq_true, Bool.not_eq_true'] at h3
  rcases h2 with h2 | h2
  · exact absurd h2 (by rw [show (g.ts.getD t.toNat T.z) = g.ts.getD t.toNat T.z from rfl, h3.2]; decide)
  · rw [Int.toNat_of_nonneg h1.1] at h2; exact h2
theorem Leg.spot {g : C} {t a b : Int} (h : Leg g t a b) {p : Int} (hp : p ∈ spots (team g t)) : (0 ≤ p ∧ p < g.l.length) ∧ owner g p = t := by
  have h1 := h.valid
  unfold validTeam at h1
  simp only [Bool.and_eq_true, List.all_eq_true] at h1
  have h2 := h1.1.2 p hp
  unfold ownAt at h2
  simp only [Bool.and_eq_true, decide_eq_true_eq] at h2
  refine ⟨h2.1, ?_⟩
  rw [owner_on h.c h2.1]
  have h3 := h.ten
  have h4 := Fl.okc_at (check_zero h.c).1 (j := p.toNat) (by omega)
  have h5 := h2.2
  rw [Fl.own_iff ⟨h3.1, h3.2.1⟩ h4] at h5
  exact of_decide_eq_true h5
theorem getD_mem {l : List Int} {i : Nat} (h : i < l.length) : l.getD i 0 ∈ l := by
  rw [List.getD_eq_getElem?_getD, List.getElem?_eq_getElem h, Option.getD_some]; exact List.getElem_mem _
theorem getD_memN {l : List Nat} {i : Nat} (h : i < l.length) : l.getD i 0 ∈ l := by
  rw [List.getD_eq_getElem?_getD, List.getElem?_eq_getElem h, Option.getD_some]; exact List.getElem_mem _
theorem near_pre {a b p : Int} {pre r : List Int} {x : Int} (h : nearI a b p = pre ++ x :: r) : pre.length ≤ 4 := by
  have h1 := near_len a b p 4
  have h2 := congrArg List.length h
  simp only [List.length_append, List.length_cons] at h2
  unfold nearI at h2
  omega
theorem G_near (g : C) (t a b : Int) (p : Nat) : ((G g t a b).nr p).length ≤ 5 := by
  have := near_len g.a g.b p 4
  show (near g p).length ≤ 5
  unfold near
  rw [List.length_map]
  exact this
theorem has_at {g : C} (h : check g = 0) {p : Nat} (hp : p < g.l.length) : Fl.has g.a g.b (p : Int) = true := Fl.has_iff.2 ⟨sides_of h, by have := len_of h; omega⟩
theorem spots_small {g : C} {t a b : Int} (h : Leg g t a b) : (spots (team g t)).length ≤ 9 := by
  have h1 := h.valid
  unfold validTeam at h1
  simp only [Bool.and_eq_true] at h1
  have h2 := numbers_len h1.1.1
  rw [spots_len]
  omega
theorem mem_near {g : C} {p q : Nat} : q ∈ near g p ↔ ((q : Int) ∈ nearI g.a g.b p) := by
  unfold near
  rw [List.mem_map]
  constructor
  · rintro ⟨x, h1, rfl⟩
    have : 0 ≤ x := by
      rcases near_mem.1 h1 with rfl | ⟨d, _, _, h3⟩ <;> omega
    rw [Int.toNat_of_nonneg this]; exact h1
  · intro h; exact ⟨q, h, by simp⟩
theorem G_ok {g : C} {t a b : Int} (h : Leg g t a b) : (G g t a b).ok where
  K0 := (per_of h.c).1
  nrlt := fun p q hp hq => by
    have h1 := near_in (sides_of h.c) (by have := len_of h.c; have : p < g.l.length := hp; omega) (mem_near.1 hq)
    have := len_of h.c
    show q < g.l.length
    omega
  sym := fun p q hp hq => mem_near.2 (near_sym (sides_of h.c) (by have := len_of h.c; have : p < g.l.length := hp; omega) (mem_near.1 hq))
  glt := by have := h.rb; show b.toNat < g.l.length; omega
  gal := fun k hk => by
    have hb : ((b.toNat : Nat) : Int) = b := Int.toNat_of_nonneg h.rb.1
    show alw g t a b (k : Int) ((b.toNat : Nat) : Int) = true
    rw [hb]
    unfold alw has mine
    rw [decide_eq_true h.ob, decide_eq_true (rfl : b = b)]
    simp
  alc := fun k p hk => by
    have : alw g t a b (k : Int) (p : Int) = true := hk
    unfold alw at this
    exact (Bool.and_eq_true _ _ ▸ this).1
theorem nn_near (g : C) (p : Nat) : (near g p).map (fun (q : Nat) => (q : Int)) = nearI g.a g.b p := by
  unfold near
  rw [List.map_map]
  conv => rhs; rw [← List.map_id (nearI g.a g.b p)]
  apply List.map_congr_left
  intro q hq
  have : 0 ≤ q := by
    rcases near_mem.1 hq with rfl | ⟨d, _, _, h3⟩ <;> omega
  simp [Int.toNat_of_nonneg this]
end Rt
end Go.Proofs.Ytflkbabhbnmajaa

/- Walks (printed by gen.py). -/
namespace Go.Proofs.Ytflkbabhbnmajaa
open Go Go.RowKit
set_option linter.unusedSimpArgs false
set_option linter.unusedVariables false

set_option maxRecDepth 100000 in
theorem Ar_ok (a b : Int) (A : Option Addr) (c : Nat) (l : List UInt8) (p : Int) (w0 : World) :
    Calls Try.prog 101 #[.agg #[.int .i64 a, .int .i64 b, .slice A l.length c], .int .i64 p] w0 (E.Post w0 (E.Old w0) fun v Hn => ∃ Bp Bf, v = .func (.func 126) #[] #[.pointer (some ⟨Bp, 0, none⟩), .pointer (some ⟨Bf, 0, none⟩)] ∧ Hn = [E.HP.blk Bp 3 [.int .i64 p], E.HP.blk Bf 24 [.int .i64 a, .int .i64 b, .slice A l.length c]]) := by
  refine E.calls_of (vs := [.agg #[.int .i64 a, .int .i64 b, .slice A l.length c], .int .i64 p]) (H := []) Try.func101 Try.ntmps101 rfl rfl (E.HA.start w0) ?_
  refine E.CW.seq ?_
  refine E.CW.region ?_
  refine E.OW.box rfl rfl rfl rfl rfl rfl (fun B1 => ?_)
  refine E.OW.box rfl rfl rfl rfl rfl rfl (fun B2 => ?_)
  refine E.OW.pure rfl rfl rfl (E.PV.assign rfl rfl) ?_
  refine E.OW.nil ?_
  refine E.then_n ?_
  refine E.CW.seq ?_
  refine E.CW.region ?_
  refine E.OW.pure rfl rfl rfl (E.PV.makeFunc (f := .func 126) (fs := []) (cs := [.tmp 3, .tmp 2]) rfl rfl rfl) ?_
  refine E.OW.pure rfl rfl rfl (E.PV.assign rfl rfl) ?_
  refine E.OW.nil ?_
  refine E.then_n ?_
  refine E.CW.ret ?_
  refine E.KR.one [0, 0] Try.results101 rfl rfl ?_
  exact ⟨_, _, rfl, rfl⟩

set_option maxRecDepth 100000 in
theorem ArI_ok (a b p : Int) (Z : Value) (Bp Bf L : Nat) (q : List Int → E.HP) (S : Nat → Prop) (w0 : World) (hhas : Fl.has a b p = true) (hY : E.YF Try.prog L q (Rt.nearI a b p)) (hS : (q []).sem S w0) (hb : ∀ k, S k → k < w0.heap.size) (hp : E.Rd w0 (E.Fm w0 S) (some ⟨Bp, 0, none⟩) [.int .i64 p]) (hf : E.Rd w0 (E.Fm w0 S) (some ⟨Bf, 0, none⟩) [.int .i64 a, .int .i64 b, Z]) :
    Calls Try.prog 126 #[.func (.yield L) #[] #[], .pointer (some ⟨Bp, 0, none⟩), .pointer (some ⟨Bf, 0, none⟩)] w0 (E.Post w0 (E.Fm w0 S) fun v Hn => Hn = [q (Rt.nearI a b p)]) := by
  refine E.calls_of (vs := [.func (.yield L) #[] #[], .pointer (some ⟨Bp, 0, none⟩), .pointer (some ⟨Bf, 0, none⟩)]) (H := [q []]) Try.func126 Try.ntmps126 rfl rfl (E.HA.startM hS hb) ?_
  refine E.CW.seq ?_
  refine E.CW.seq ?_
  refine E.CW.region ?_
  refine E.OW.pure rfl rfl rfl (E.PV.move rfl rfl) ?_
  refine E.OW.pure rfl rfl rfl (E.PV.load_at (E.rdc hp) na3 rfl rfl rfl) ?_
  refine E.OW.yield rfl rfl rfl rfl rfl rfl hY 0 rfl (Rt.near_first a b p) ?_
  refine E.OW.pure rfl rfl rfl (E.PV.not rfl rfl) ?_
  refine E.OW.nil ?_
  refine E.then_n ?_
  refine E.CW.cond rfl (fun hc => ?_) (fun hc => ?_)
  · (cases hc; done)
  · simp only [E.b0, E.b1, E.b2, E.b3, E.b4, E.b5, E.b6, E.b7, E.b8, E.b9, E.b10, E.b11, E.b12, E.b13, E.b14, E.b15, E.b16, E.b17, E.b18, E.b19, E.b20, reduceCtorEq] at hc
    all_goals (
      refine E.CW.skip ?_
      refine E.then_n ?_
      refine E.CW.seq ?_
      refine E.CW.region ?_
      refine E.OW.pure rfl rfl rfl (E.PV.assign rfl rfl) ?_
      refine E.OW.nil ?_
      refine E.then_n ?_
      refine E.CW.block ?_
      refine E.CW.loopk [0, 1, 2] 1 rfl rfl (fun mm mods Hm => ∃ d : Nat, mm = 4 - d ∧ mods = [(4, .int .i64 d)] ∧ Hm = [q (Rt.nearTo a b p d)] ∧ d ≤ 4) (4) ?_ ?_
      · exact ⟨[(4, _)], (by repeat (first | exact E.cov_nil | refine ⟨rfl, ?_⟩)), 0, rfl, rfl, rfl, by omega⟩
      · rintro _ _ _ ⟨d, rfl, rfl, rfl, hd⟩
        refine E.CW.seq ?_
        refine E.CW.seq ?_
        refine E.CW.region ?_
        refine E.OW.pure rfl rfl rfl (E.PV.move rfl rfl) ?_
        refine E.OW.pure rfl rfl rfl (E.PV.leq rfl rfl rfl) ?_
        refine E.OW.nil ?_
        refine E.then_n ?_
        refine E.CW.cond rfl (fun hc => ?_) (fun hc => ?_)
        · simp only [E.b0, E.b1, E.b2, E.b3, E.b4, E.b5, E.b6, E.b7, E.b8, E.b9, E.b10, E.b11, E.b12, E.b13, E.b14, E.b15, E.b16, E.b17, E.b18, E.b19, E.b20, reduceCtorEq] at hc
          all_goals (
            refine E.CW.skip ?_
            refine E.then_n ?_
            refine E.CW.seq ?_
            refine E.CW.block ?_
            refine E.CW.seq ?_
            rcases Fl.step_two (p := p) hhas (show 0 ≤ (d : Int) ∧ (d : Int) < 4 by omega) with ⟨hm, hst⟩ | ⟨hm, hst⟩
            · skip
              refine E.CW.region ?_
              refine E.OW.pure rfl rfl rfl (E.PV.fieldAddr fa24_0 rfl rfl) ?_
              refine E.OW.pure rfl rfl rfl (E.PV.load_at (E.rdc hf) na3 rfl rfl rfl) ?_
              refine E.OW.pure rfl rfl rfl (E.PV.fieldAddr fa24_1 rfl rfl) ?_
              refine E.OW.pure rfl rfl rfl (E.PV.load_at (E.rdc hf) na3 rfl rfl rfl) ?_
              refine E.OW.pure rfl rfl rfl (E.PV.load_at (E.rdc hp) na3 rfl rfl rfl) ?_
              refine E.OW.pure rfl rfl rfl (E.PV.move rfl rfl) ?_
              (refine E.OW.call nm127 rfl rfl rfl rfl rfl rfl _ (fun w hw => Step_ok _ _ _ _ w) ?_; rintro _ _ ⟨rfl, rfl⟩)
              refine E.OW.pure rfl rfl rfl (E.PV.move rfl rfl) ?_
              refine E.OW.pure rfl rfl rfl (E.PV.extract rfl rfl rfl) ?_
              refine E.OW.pure rfl rfl rfl (E.PV.extract rfl rfl rfl) ?_
              refine E.OW.pure rfl rfl rfl (E.PV.assign rfl rfl) ?_
              refine E.OW.pure rfl rfl rfl (E.PV.assign rfl rfl) ?_
              refine E.OW.nil ?_
              refine E.then_n ?_
              refine E.CW.seq ?_
              try (have hm2 : 0 ≤ Fl.mv a b p d := hm; obtain ⟨r, hr⟩ := Rt.near_at (show d < 4 by omega) hm2; rw [show Fl.mv a b p d = (Fl.step a b p d).1 from by rw [hst]] at hr)
              refine E.CW.region ?_
              refine E.OW.pure rfl rfl rfl (E.PV.move rfl rfl) ?_
              refine E.OW.pure rfl rfl rfl (E.PV.eql rfl rfl rfl) ?_
              refine E.OW.pure rfl rfl rfl (E.PV.move rfl rfl) ?_
              all_goals (refine E.OW.put 27 (.bool true) rfl (congrArg Value.bool ?_) ?_; (focus (rw [hst]; rfl)))
              all_goals (refine E.OW.pure rfl rfl rfl (E.PV.move rfl rfl) ?_)
              all_goals (refine E.OW.pure rfl rfl rfl (E.PV.move rfl rfl) ?_)
              all_goals (refine E.OW.yield rfl rfl rfl rfl rfl rfl hY 0 rfl hr ?_)
              all_goals (refine E.OW.pure rfl rfl rfl (E.PV.not rfl rfl) ?_)
              all_goals (refine E.OW.pure rfl rfl rfl (E.PV.pick_t rfl rfl rfl) ?_)
              all_goals (
                refine E.OW.nil ?_
                refine E.then_n ?_
                refine E.CW.cond rfl (fun hc => ?_) (fun hc => ?_)
                · (cases hc; done)
                · simp only [E.b0, E.b1, E.b2, E.b3, E.b4, E.b5, E.b6, E.b7, E.b8, E.b9, E.b10, E.b11, E.b12, E.b13, E.b14, E.b15, E.b16, E.b17, E.b18, E.b19, E.b20, reduceCtorEq] at hc
                  all_goals (
                    refine E.CW.skip ?_
                    refine E.blk_n ?_
                    refine E.then_n ?_
                    refine E.CW.region ?_
                    refine E.OW.pure rfl rfl rfl (E.PV.move rfl rfl) ?_
                    refine E.OW.pure rfl rfl rfl (E.PV.add_i64 rfl rfl rfl ?_) ?_; (focus (omega))
                    refine E.OW.pure rfl rfl rfl (E.PV.assign rfl rfl) ?_
                    refine E.OW.nil ?_
                    refine E.then_nf ?_
                    refine ⟨_, [(4, _)], [0], [_], ?_, by repeat (first | exact E.cov_nil | refine ⟨rfl, ?_⟩), rfl, d + 1, rfl, rfl, (by first | (have hm2 : 0 ≤ Fl.mv a b p d := hm; rw [Rt.near_yes hm2, hst]) | (have hm2 : Fl.mv a b p d < 0 := hm; rw [Rt.near_no hm2])), by omega⟩
                    omega))
            · skip
              refine E.CW.region ?_
              refine E.OW.pure rfl rfl rfl (E.PV.fieldAddr fa24_0 rfl rfl) ?_
              refine E.OW.pure rfl rfl rfl (E.PV.load_at (E.rdc hf) na3 rfl rfl rfl) ?_
              refine E.OW.pure rfl rfl rfl (E.PV.fieldAddr fa24_1 rfl rfl) ?_
              refine E.OW.pure rfl rfl rfl (E.PV.load_at (E.rdc hf) na3 rfl rfl rfl) ?_
              refine E.OW.pure rfl rfl rfl (E.PV.load_at (E.rdc hp) na3 rfl rfl rfl) ?_
              refine E.OW.pure rfl rfl rfl (E.PV.move rfl rfl) ?_
              (refine E.OW.call nm127 rfl rfl rfl rfl rfl rfl _ (fun w hw => Step_ok _ _ _ _ w) ?_; rintro _ _ ⟨rfl, rfl⟩)
              refine E.OW.pure rfl rfl rfl (E.PV.move rfl rfl) ?_
              refine E.OW.pure rfl rfl rfl (E.PV.extract rfl rfl rfl) ?_
              refine E.OW.pure rfl rfl rfl (E.PV.extract rfl rfl rfl) ?_
              refine E.OW.pure rfl rfl rfl (E.PV.assign rfl rfl) ?_
              refine E.OW.pure rfl rfl rfl (E.PV.assign rfl rfl) ?_
              refine E.OW.nil ?_
              refine E.then_n ?_
              refine E.CW.seq ?_
              try (have hm2 : 0 ≤ Fl.mv a b p d := hm; obtain ⟨r, hr⟩ := Rt.near_at (show d < 4 by omega) hm2; rw [show Fl.mv a b p d = (Fl.step a b p d).1 from by rw [hst]] at hr)
              refine E.CW.region ?_
              refine E.OW.pure rfl rfl rfl (E.PV.move rfl rfl) ?_
              refine E.OW.pure rfl rfl rfl (E.PV.eql rfl rfl rfl) ?_
              refine E.OW.pure rfl rfl rfl (E.PV.move rfl rfl) ?_
              all_goals (refine E.OW.put 27 (.bool false) rfl (congrArg Value.bool ?_) ?_; (focus (rw [hst]; rfl)))
              all_goals (refine E.OW.off rfl rfl rfl ?_)
              all_goals (refine E.OW.off rfl rfl rfl ?_)
              all_goals (refine E.OW.off rfl rfl rfl ?_)
              all_goals (refine E.OW.off rfl rfl rfl ?_)
              all_goals (refine E.OW.pure rfl rfl rfl (E.PV.pick_f rfl rfl rfl) ?_)
              all_goals (
                refine E.OW.nil ?_
                refine E.then_n ?_
                refine E.CW.cond rfl (fun hc => ?_) (fun hc => ?_)
                · (cases hc; done)
                · simp only [E.b0, E.b1, E.b2, E.b3, E.b4, E.b5, E.b6, E.b7, E.b8, E.b9, E.b10, E.b11, E.b12, E.b13, E.b14, E.b15, E.b16, E.b17, E.b18, E.b19, E.b20, reduceCtorEq] at hc
                  all_goals (
                    refine E.CW.skip ?_
                    refine E.blk_n ?_
                    refine E.then_n ?_
                    refine E.CW.region ?_
                    refine E.OW.pure rfl rfl rfl (E.PV.move rfl rfl) ?_
                    refine E.OW.pure rfl rfl rfl (E.PV.add_i64 rfl rfl rfl ?_) ?_; (focus (omega))
                    refine E.OW.pure rfl rfl rfl (E.PV.assign rfl rfl) ?_
                    refine E.OW.nil ?_
                    refine E.then_nf ?_
                    refine ⟨_, [(4, _)], [0], [_], ?_, by repeat (first | exact E.cov_nil | refine ⟨rfl, ?_⟩), rfl, d + 1, rfl, rfl, (by first | (have hm2 : 0 ≤ Fl.mv a b p d := hm; rw [Rt.near_yes hm2, hst]) | (have hm2 : Fl.mv a b p d < 0 := hm; rw [Rt.near_no hm2])), by omega⟩
                    omega)))
        · simp only [E.b0, E.b1, E.b2, E.b3, E.b4, E.b5, E.b6, E.b7, E.b8, E.b9, E.b10, E.b11, E.b12, E.b13, E.b14, E.b15, E.b16, E.b17, E.b18, E.b19, E.b20, reduceCtorEq] at hc
          all_goals (
            refine E.CW.exit ?_
            refine E.then_x ?_
            refine E.then_x ?_
            refine E.blk_eq ?_
            refine (E.KR.zero [0] Try.results126 rfl ?_).1
            obtain rfl : d = 4 := by omega
            exact rfl))
end Go.Proofs.Ytflkbabhbnmajaa

/- Closed facts on the program (printed by gen.py). -/
namespace Go.Proofs.Ytflkbabhbnmajaa
open Go Go.RowKit
set_option linter.unusedSimpArgs false
set_option linter.unusedVariables false
theorem bsl149_1_0 (x0 : Int) (x1 : Int) (w : World) : (Instr.buildSlice 149 1 #[(0, .agg #[.int .i64 x0, .int .i64 x1])]).run Try.prog w = .ok (.slice (some ⟨w.heap.size, 0, none⟩) 1 1) (w.alloc (.cells #[.int .i64 x0, .int .i64 x1] 154)) := by kernel_rfl
theorem fa151_0 : E.FA Try.prog 151 0 0 := fun _ _ _ => by kernel_rfl
theorem fa151_1 : E.FA Try.prog 151 1 1 := fun _ _ _ => by kernel_rfl
theorem in149 : E.In Try.prog 149 (.slice none 0 0) 1 24 := by unfold E.In; kernel_rfl
theorem in154 : E.In Try.prog 154 (.agg #[.int .i64 0, .int .i64 0]) 2 16 := by unfold E.In; kernel_rfl
theorem is154 : E.Is Try.prog 154 2 := ⟨fun _ => by kernel_rfl, fun _ => by kernel_rfl⟩
theorem na149 : E.Na Try.prog 149 := fun _ => by kernel_rfl
end Go.Proofs.Ytflkbabhbnmajaa

/- Walks (printed by gen.py). -/
namespace Go.Proofs.Ytflkbabhbnmajaa
open Go Go.RowKit
set_option linter.unusedSimpArgs false
set_option linter.unusedVariables false

set_option maxRecDepth 100000 in
theorem push_ok (B : Nat) (q : List (Nat × Nat)) (h p k : Nat) (S : Nat → Prop) (w0 : World) (hS : (E.HP.que B q h).sem S w0) (hb : ∀ k, S k → k < w0.heap.size) (hq : q.length ≤ 2000) :
    Calls Try.prog 129 #[.pointer (some ⟨B, 0, none⟩), .agg #[.int .i64 (p : Int), .int .i64 (k : Int)]] w0 (E.Post w0 (E.Fm w0 S) fun v Hn => Hn = [E.HP.que B (q ++ [(p, k)]) (h)]) := by
  refine E.calls_of (vs := [.pointer (some ⟨B, 0, none⟩), .agg #[.int .i64 (p : Int), .int .i64 (k : Int)]]) (H := [E.HP.que B (q) (h)]) Try.func129 Try.ntmps129 rfl rfl (E.HA.startM hS hb) ?_
  refine E.CW.seq ?_
  refine E.CW.queout 0 rfl (fun AQ cQ => ?_)
  refine E.CW.region ?_
  refine E.OW.box rfl rfl rfl rfl rfl rfl (fun B1 => ?_)
  refine E.OW.nil ?_
  refine E.then_n ?_
  refine E.CW.drawx mixed [0] rfl ?_
  all_goals (refine E.AW.first 0 rfl (by kernel_rfl) (by kernel_rfl) (by kernel_rfl) rfl rfl rfl (E.PV.move rfl rfl) ?_)
  all_goals (refine E.AW.first 1 rfl (by kernel_rfl) (by kernel_rfl) (by kernel_rfl) rfl rfl rfl (E.PV.move rfl rfl) ?_)
  all_goals (refine E.AW.first 2 rfl (by kernel_rfl) (by kernel_rfl) (by kernel_rfl) rfl rfl rfl (E.PV.nilCheck rfl rfl) ?_)
  all_goals (refine E.AW.first 3 rfl (by kernel_rfl) (by kernel_rfl) (by kernel_rfl) rfl rfl rfl (E.PV.fieldAddr fa151_0 rfl rfl) ?_)
  all_goals (refine E.AW.first 5 rfl (by kernel_rfl) (by kernel_rfl) (by kernel_rfl) rfl rfl rfl (E.PV.loads (i := 0) is154 rfl rfl rfl rfl) ?_)
  all_goals (
    refine E.AW.two 4 6 (by kernel_rfl) rfl rfl ?ga1 ?gb1
    case' ga1 =>
        all_goals (refine E.OW.pure rfl rfl rfl (E.PV.load (i := 1) na149 rfl rfl rfl rfl) ?_)
        all_goals (first | (refine E.AW.nil [0] rfl ?_) | (refine E.AW.nil [1] rfl ?_) | (refine E.AW.nil [2] rfl ?_) | (refine E.AW.nil [3] rfl ?_) | (refine E.AW.nil [4] rfl ?_) | (refine E.AW.nil [5] rfl ?_) | (refine E.AW.nil [6] rfl ?_) | (refine E.AW.nil [0] rfl ?_) | (refine E.AW.nil [0] rfl ?_))
        all_goals (refine E.AW.one 6 (by kernel_rfl) rfl ?_)
        all_goals (refine E.OW.buildSlice (Et := 154) (sz := 2) (ps := [(0, .tmp 9)]) rfl rfl rfl rfl rfl (by simp) (by unfold maxLen; omega) (fun w => bsl149_1_0 _ _ w) (fun A2 => ?_))
        all_goals (first | (refine E.AW.nil [0] rfl ?_) | (refine E.AW.nil [1] rfl ?_) | (refine E.AW.nil [2] rfl ?_) | (refine E.AW.nil [3] rfl ?_) | (refine E.AW.nil [4] rfl ?_) | (refine E.AW.nil [5] rfl ?_) | (refine E.AW.nil [6] rfl ?_) | (refine E.AW.nil [0] rfl ?_) | (refine E.AW.nil [0] rfl ?_))
        all_goals (refine E.AW.one 7 (by kernel_rfl) rfl ?_)
        all_goals (refine E.OW.append (i := 3) Try.underlying149 in154 rfl rfl (by decide) rfl rfl rfl rfl rfl rfl rfl (E.rdr (i := 0) rfl) ?_ ?_ ?_ ?_ (fun A3 c3 => ?_); (focus ((first | rfl | (simp; done) | omega))); (focus ((first | exact E.ints_one | exact E.u8s_one | (simp [Value.oneCell']; done)))); (focus ((unfold maxLen; omega))); (focus ((first | omega | (simp only [List.length_append, List.length_cons, List.length_nil] at *; omega) | (unfold maxLen at *; omega)))))
        all_goals (first | (refine E.AW.nil [0] rfl ?_) | (refine E.AW.nil [1] rfl ?_) | (refine E.AW.nil [2] rfl ?_) | (refine E.AW.nil [3] rfl ?_) | (refine E.AW.nil [4] rfl ?_) | (refine E.AW.nil [5] rfl ?_) | (refine E.AW.nil [6] rfl ?_) | (refine E.AW.nil [0] rfl ?_) | (refine E.AW.nil [0] rfl ?_))
        all_goals (refine E.AW.first 8 rfl (by kernel_rfl) (by kernel_rfl) (by kernel_rfl) rfl rfl rfl (E.PV.nilCheck rfl rfl) ?_)
        all_goals (refine E.AW.first 9 rfl (by kernel_rfl) (by kernel_rfl) (by kernel_rfl) rfl rfl rfl (E.PV.fieldAddr fa151_0 rfl rfl) ?_)
        all_goals (refine E.AW.one 10 (by kernel_rfl) rfl ?_)
        all_goals (refine E.OW.store (i := 3) in149.size rfl rfl rfl rfl rfl rfl rfl rfl rfl ?_)
        all_goals (first | (refine E.AW.nil [0] rfl ?_) | (refine E.AW.nil [1] rfl ?_) | (refine E.AW.nil [2] rfl ?_) | (refine E.AW.nil [3] rfl ?_) | (refine E.AW.nil [4] rfl ?_) | (refine E.AW.nil [5] rfl ?_) | (refine E.AW.nil [6] rfl ?_) | (refine E.AW.nil [0] rfl ?_) | (refine E.AW.nil [0] rfl ?_))
        all_goals (refine E.AW.conv (E.cv_quein (q := q ++ [(p, k)]) 0 0 rfl rfl (by simp) (E.qI_snoc q p k).symm) ?_)
        all_goals (refine E.AW.done (by kernel_rfl) ?_)
    case' gb1 =>
        all_goals (refine E.OW.buildSlice (Et := 154) (sz := 2) (ps := [(0, .tmp 9)]) rfl rfl rfl rfl rfl (by simp) (by unfold maxLen; omega) (fun w => bsl149_1_0 _ _ w) (fun A4 => ?_))
        all_goals (first | (refine E.AW.nil [0] rfl ?_) | (refine E.AW.nil [1] rfl ?_) | (refine E.AW.nil [2] rfl ?_) | (refine E.AW.nil [3] rfl ?_) | (refine E.AW.nil [4] rfl ?_) | (refine E.AW.nil [5] rfl ?_) | (refine E.AW.nil [6] rfl ?_) | (refine E.AW.nil [0] rfl ?_) | (refine E.AW.nil [0] rfl ?_))
        all_goals (refine E.AW.one 4 (by kernel_rfl) rfl ?_)
        all_goals (refine E.OW.pure rfl rfl rfl (E.PV.load (i := 2) na149 rfl rfl rfl rfl) ?_)
        all_goals (first | (refine E.AW.nil [0] rfl ?_) | (refine E.AW.nil [1] rfl ?_) | (refine E.AW.nil [2] rfl ?_) | (refine E.AW.nil [3] rfl ?_) | (refine E.AW.nil [4] rfl ?_) | (refine E.AW.nil [5] rfl ?_) | (refine E.AW.nil [6] rfl ?_) | (refine E.AW.nil [0] rfl ?_) | (refine E.AW.nil [0] rfl ?_))
        all_goals (refine E.AW.one 7 (by kernel_rfl) rfl ?_)
        all_goals (refine E.OW.append (i := 3) Try.underlying149 in154 rfl rfl (by decide) rfl rfl rfl rfl rfl rfl rfl (E.rdr (i := 0) rfl) ?_ ?_ ?_ ?_ (fun A5 c5 => ?_); (focus ((first | rfl | (simp; done) | omega))); (focus ((first | exact E.ints_one | exact E.u8s_one | (simp [Value.oneCell']; done)))); (focus ((unfold maxLen; omega))); (focus ((first | omega | (simp only [List.length_append, List.length_cons, List.length_nil] at *; omega) | (unfold maxLen at *; omega)))))
        all_goals (first | (refine E.AW.nil [0] rfl ?_) | (refine E.AW.nil [1] rfl ?_) | (refine E.AW.nil [2] rfl ?_) | (refine E.AW.nil [3] rfl ?_) | (refine E.AW.nil [4] rfl ?_) | (refine E.AW.nil [5] rfl ?_) | (refine E.AW.nil [6] rfl ?_) | (refine E.AW.nil [0] rfl ?_) | (refine E.AW.nil [0] rfl ?_))
        all_goals (refine E.AW.first 8 rfl (by kernel_rfl) (by kernel_rfl) (by kernel_rfl) rfl rfl rfl (E.PV.nilCheck rfl rfl) ?_)
        all_goals (refine E.AW.first 9 rfl (by kernel_rfl) (by kernel_rfl) (by kernel_rfl) rfl rfl rfl (E.PV.fieldAddr fa151_0 rfl rfl) ?_)
        all_goals (refine E.AW.one 10 (by kernel_rfl) rfl ?_)
        all_goals (refine E.OW.store (i := 3) in149.size rfl rfl rfl rfl rfl rfl rfl rfl rfl ?_)
        all_goals (first | (refine E.AW.nil [0] rfl ?_) | (refine E.AW.nil [1] rfl ?_) | (refine E.AW.nil [2] rfl ?_) | (refine E.AW.nil [3] rfl ?_) | (refine E.AW.nil [4] rfl ?_) | (refine E.AW.nil [5] rfl ?_) | (refine E.AW.nil [6] rfl ?_) | (refine E.AW.nil [0] rfl ?_) | (refine E.AW.nil [0] rfl ?_))
        all_goals (refine E.AW.conv (E.cv_quein (q := q ++ [(p, k)]) 0 0 rfl rfl (by simp) (E.qI_snoc q p k).symm) ?_)
        all_goals (refine E.AW.done (by kernel_rfl) ?_))
  all_goals (
    skip
    refine (E.KR.zero [0] Try.results129 rfl ?_).1
    exact rfl)

set_option maxRecDepth 100000 in
theorem pop_ok (B : Nat) (q : List (Nat × Nat)) (h : Nat) (S : Nat → Prop) (w0 : World) (hS : (E.HP.que B q h).sem S w0) (hb : ∀ k, S k → k < w0.heap.size) (hq : q.length ≤ 2000) :
    Calls Try.prog 130 #[.pointer (some ⟨B, 0, none⟩)] w0 (E.Post w0 (E.Fm w0 S) fun v Hn => ∃ (b : Bool) (x1 x2 : Int) (h2 : Nat), v = .tuple #[.agg #[.int .i64 x1, .int .i64 x2], .bool b] ∧ Hn = [E.HP.que B (q) (h2)] ∧ ((b = true ∧ h < q.length ∧ x1 = ((Bf.at_ q h).1 : Int) ∧ x2 = ((Bf.at_ q h).2 : Int) ∧ h2 = h + 1) ∨ (b = false ∧ q.length ≤ h ∧ h2 = h))) := by
  have hqi := E.qI_length q
  refine E.calls_of (vs := [.pointer (some ⟨B, 0, none⟩)]) (H := [E.HP.que B (q) (h)]) Try.func130 Try.ntmps130 rfl rfl (E.HA.startM hS hb) ?_
  refine E.CW.seq ?_
  refine E.CW.queout 0 rfl (fun AQ cQ => ?_)
  refine E.CW.region ?_
  refine E.OW.alloc (in154.zr) rfl rfl rfl rfl rfl (fun B1 => ?_)
  refine E.OW.pure rfl rfl rfl (E.PV.assign rfl rfl) ?_
  refine E.OW.nil ?_
  refine E.then_n ?_
  refine E.CW.seq ?_
  refine E.CW.region ?_
  refine E.OW.alloc (in154.zr) rfl rfl rfl rfl rfl (fun B2 => ?_)
  refine E.OW.nil ?_
  refine E.then_n ?_
  refine E.CW.seq ?_
  refine E.CW.seq ?_
  refine E.CW.draw mixed (by kernel_rfl) ?_
  refine E.QW.pure rfl rfl rfl (E.PV.move rfl rfl) ?_
  refine E.QW.pure rfl rfl rfl (E.PV.nilCheck rfl rfl) ?_
  refine E.QW.pure rfl rfl rfl (E.PV.fieldAddr fa151_1 rfl rfl) ?_
  refine E.QW.pure rfl rfl rfl (E.PV.load (i := 2) na3 rfl rfl rfl rfl) ?_
  refine E.QW.pure rfl rfl rfl (E.PV.move rfl rfl) ?_
  refine E.QW.pure rfl rfl rfl (E.PV.nilCheck rfl rfl) ?_
  refine E.QW.pure rfl rfl rfl (E.PV.fieldAddr fa151_0 rfl rfl) ?_
  refine E.QW.pure rfl rfl rfl (E.PV.load (i := 2) na149 rfl rfl rfl rfl) ?_
  refine E.QW.pure rfl rfl rfl (E.PV.len Try.underlying149 rfl rfl) ?_
  refine E.QW.pure rfl rfl rfl (E.PV.geq rfl rfl rfl) ?_
  refine E.QW.nil ?_
  refine E.then_n ?_
  refine E.CW.cond rfl (fun hc => ?_) (fun hc => ?_)
  · simp only [E.b0, E.b1, E.b2, E.b3, E.b4, E.b5, E.b6, E.b7, E.b8, E.b9, E.b10, E.b11, E.b12, E.b13, E.b14, E.b15, E.b16, E.b17, E.b18, E.b19, E.b20, reduceCtorEq] at hc
    all_goals (
      refine E.CW.seq ?_
      refine E.CW.region ?_
      refine E.OW.pure rfl rfl rfl (E.PV.loads (i := 0) is154 rfl rfl rfl rfl) ?_
      refine E.OW.store (i := 1) in154.size rfl rfl rfl rfl rfl rfl rfl rfl rfl ?_
      refine E.OW.pure rfl rfl rfl (E.PV.assign rfl rfl) ?_
      refine E.OW.cvt (E.cv_quein (q := q) (h := h) 2 2 rfl rfl rfl rfl) ?_
      refine E.OW.nil ?_
      refine E.then_n ?_
      refine E.CW.ret ?_
      refine E.then_ret ?_
      refine E.KR.rv2 [0] Try.results130 (E.rv.cell is154 rfl (E.sli 1 rfl) rfl) rfl rfl ?_
      exact ⟨false, 0, 0, h, rfl, rfl, .inr ⟨rfl, by omega, rfl⟩⟩)
  · simp only [E.b0, E.b1, E.b2, E.b3, E.b4, E.b5, E.b6, E.b7, E.b8, E.b9, E.b10, E.b11, E.b12, E.b13, E.b14, E.b15, E.b16, E.b17, E.b18, E.b19, E.b20, reduceCtorEq] at hc
    all_goals (
      refine E.CW.skip ?_
      refine E.then_n ?_
      refine E.CW.seq ?_
      refine E.CW.drawx mixed [2, 2] rfl ?_
      all_goals (refine E.AW.first 0 rfl (by kernel_rfl) (by kernel_rfl) (by kernel_rfl) rfl rfl rfl (E.PV.move rfl rfl) ?_)
      all_goals (refine E.AW.first 1 rfl (by kernel_rfl) (by kernel_rfl) (by kernel_rfl) rfl rfl rfl (E.PV.nilCheck rfl rfl) ?_)
      all_goals (refine E.AW.first 2 rfl (by kernel_rfl) (by kernel_rfl) (by kernel_rfl) rfl rfl rfl (E.PV.fieldAddr fa151_0 rfl rfl) ?_)
      all_goals (refine E.AW.first 3 rfl (by kernel_rfl) (by kernel_rfl) (by kernel_rfl) rfl rfl rfl (E.PV.load (i := 0) na149 rfl rfl rfl rfl) ?_)
      all_goals (refine E.AW.first 4 rfl (by kernel_rfl) (by kernel_rfl) (by kernel_rfl) rfl rfl rfl (E.PV.move rfl rfl) ?_)
      all_goals (refine E.AW.first 5 rfl (by kernel_rfl) (by kernel_rfl) (by kernel_rfl) rfl rfl rfl (E.PV.nilCheck rfl rfl) ?_)
      all_goals (refine E.AW.first 6 rfl (by kernel_rfl) (by kernel_rfl) (by kernel_rfl) rfl rfl rfl (E.PV.fieldAddr fa151_1 rfl rfl) ?_)
      all_goals (refine E.AW.first 7 rfl (by kernel_rfl) (by kernel_rfl) (by kernel_rfl) rfl rfl rfl (E.PV.load (i := 0) na3 rfl rfl rfl rfl) ?_)
      all_goals (refine E.AW.first 8 rfl (by kernel_rfl) (by kernel_rfl) (by kernel_rfl) rfl rfl rfl (E.PV.indexAddr (E.rdr (i := 1) rfl) Try.underlying149 in154 rfl rfl rfl rfl ?_ ?_ (by decide)) ?_; (focus (first | (simp; done) | (simp; omega))); (focus (omega)))
      all_goals (refine E.AW.first 9 rfl (by kernel_rfl) (by kernel_rfl) (by kernel_rfl) rfl rfl rfl (E.PV.load_pair (E.rdr (i := 1) rfl) is154 rfl rfl ?_) ?_; (focus (omega)))
      all_goals (refine E.AW.one 10 (by kernel_rfl) rfl ?_)
      all_goals (refine E.OW.alloc (in154.zr) rfl rfl rfl rfl rfl (fun B3 => ?_))
      all_goals (first | (refine E.AW.nil [2, 2] rfl ?_) | (refine E.AW.nil [3, 3] rfl ?_) | (refine E.AW.nil [4, 4] rfl ?_) | (refine E.AW.nil [5, 5] rfl ?_) | (refine E.AW.nil [6, 6] rfl ?_) | (refine E.AW.nil [7, 7] rfl ?_) | (refine E.AW.nil [8, 8] rfl ?_) | (refine E.AW.nil [1, 1] rfl ?_) | (refine E.AW.nil [0, 0] rfl ?_))
      all_goals (refine E.AW.one 11 (by kernel_rfl) rfl ?_)
      all_goals (refine E.OW.store (i := 0) in154.size rfl rfl rfl rfl rfl rfl rfl rfl rfl ?_)
      all_goals (first | (refine E.AW.nil [2, 2] rfl ?_) | (refine E.AW.nil [3, 3] rfl ?_) | (refine E.AW.nil [4, 4] rfl ?_) | (refine E.AW.nil [5, 5] rfl ?_) | (refine E.AW.nil [6, 6] rfl ?_) | (refine E.AW.nil [7, 7] rfl ?_) | (refine E.AW.nil [8, 8] rfl ?_) | (refine E.AW.nil [1, 1] rfl ?_) | (refine E.AW.nil [0, 0] rfl ?_))
      all_goals (refine E.AW.done (by kernel_rfl) ?_)
      all_goals (
        skip
        refine E.then_n ?_
        refine E.CW.seq ?_
        refine E.CW.region ?_
        refine E.OW.pure rfl rfl rfl (E.PV.move rfl rfl) ?_
        refine E.OW.pure rfl rfl rfl (E.PV.nilCheck rfl rfl) ?_
        refine E.OW.pure rfl rfl rfl (E.PV.fieldAddr fa151_1 rfl rfl) ?_
        refine E.OW.pure rfl rfl rfl (E.PV.load (i := 3) na3 rfl rfl rfl rfl) ?_
        refine E.OW.pure rfl rfl rfl (E.PV.add_i64 rfl rfl rfl ?_) ?_; (focus (omega))
        refine E.OW.pure rfl rfl rfl (E.PV.nilCheck rfl rfl) ?_
        refine E.OW.pure rfl rfl rfl (E.PV.fieldAddr fa151_1 rfl rfl) ?_
        refine E.OW.store (i := 3) in3.size rfl rfl rfl rfl rfl rfl rfl rfl rfl ?_
        refine E.OW.nil ?_
        refine E.then_n ?_
        refine E.CW.seq ?_
        refine E.CW.region ?_
        refine E.OW.pure rfl rfl rfl (E.PV.loads (i := 1) is154 rfl rfl rfl rfl) ?_
        refine E.OW.store (i := 3) in154.size rfl rfl rfl rfl rfl rfl rfl rfl rfl ?_
        refine E.OW.pure rfl rfl rfl (E.PV.assign rfl rfl) ?_
        refine E.OW.cvt (E.cv_quein (q := q) (h := h + 1) 1 3 rfl rfl rfl rfl) ?_
        refine E.OW.nil ?_
        refine E.then_n ?_
        refine E.CW.ret ?_
        refine E.KR.rv2 [0] Try.results130 (E.rv.cell is154 rfl (E.sli 1 rfl) rfl) rfl rfl ?_
        exact ⟨true, _, _, h + 1, rfl, rfl, .inl ⟨rfl, by omega, congrArg Prod.fst (E.qI_get q h), congrArg Prod.snd (E.qI_get q h), rfl⟩⟩))
end Go.Proofs.Ytflkbabhbnmajaa

/- Closed facts on the program (printed by gen.py). -/
namespace Go.Proofs.Ytflkbabhbnmajaa
open Go Go.RowKit
set_option linter.unusedSimpArgs false
set_option linter.unusedVariables false
theorem bld154_0_1 (x0 : Int) (x1 : Int) (w : World) : (Instr.build 154 #[(0, .int .i64 x0), (1, .int .i64 x1)]).run Try.prog w = .ok (.agg #[.int .i64 x0, .int .i64 x1]) w := by kernel_rfl
theorem fa154_0 : E.FA Try.prog 154 0 0 := fun _ _ _ => by kernel_rfl
theorem fa154_1 : E.FA Try.prog 154 1 1 := fun _ _ _ => by kernel_rfl
theorem fa93_0 : E.FA Try.prog 93 0 0 := fun _ _ _ => by kernel_rfl
theorem fa93_1 : E.FA Try.prog 93 1 1 := fun _ _ _ => by kernel_rfl
theorem fa93_2 : E.FA Try.prog 93 2 2 := fun _ _ _ => by kernel_rfl
theorem fa93_3 : E.FA Try.prog 93 3 3 := fun _ _ _ => by kernel_rfl
theorem fa93_4 : E.FA Try.prog 93 4 4 := fun _ _ _ => by kernel_rfl
theorem in151 : E.In Try.prog 151 (.agg #[.slice none 0 0, .int .i64 0]) 2 32 := by unfold E.In; kernel_rfl
theorem in4 : E.In Try.prog 4 (.bool false) 1 1 := by unfold E.In; kernel_rfl
theorem in89 : E.In Try.prog 89 (.slice none 0 0) 1 24 := by unfold E.In; kernel_rfl
theorem na4 : E.Na Try.prog 4 := fun _ => by kernel_rfl
theorem na87 : E.Na Try.prog 87 := fun _ => by kernel_rfl
theorem na89 : E.Na Try.prog 89 := fun _ => by kernel_rfl
theorem na90 : E.Na Try.prog 90 := fun _ => by kernel_rfl
theorem na91 : E.Na Try.prog 91 := fun _ => by kernel_rfl
theorem nm128 : E.Nm Try.prog 128 := ⟨Try.f128, Try.func128, rfl, by kernel_rfl⟩
theorem nm129 : E.Nm Try.prog 129 := ⟨Try.f129, Try.func129, rfl, by kernel_rfl⟩
theorem nm130 : E.Nm Try.prog 130 := ⟨Try.f130, Try.func130, rfl, by kernel_rfl⟩
end Go.Proofs.Ytflkbabhbnmajaa
