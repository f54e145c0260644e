/- Walks (printed by gen.py). -/
import Derived.Test.YtbdfljgnlendjaaG6
namespace Go.Proofs.Ytbdfljgnlendjaa
open Go Go.RowKit
set_option linter.unusedSimpArgs false
set_option linter.unusedVariables false

set_option maxRecDepth 100000 in
theorem rnx_ok (A : Option Addr) (c : Nat) (s : List UInt8) (sh : Bool)  (w0 : World) (hcs : s.length ≤ c) (hl : s.length ≤ 100000) (hX : E.Rd w0 (E.Old w0) A (E.u8s s)) :
    Calls Try.prog 88 #[.agg #[.slice A s.length c, .bool sh]] w0 (E.Post w0 (E.Old w0) fun v Hn => ∃ (x : Nat) (A3 : Option Addr) (c3 : Nat) (s3 : List UInt8) (sh3 : Bool), v = .tuple #[.int .i64 x, .agg #[.slice A3 (List.length s3) c3, .bool sh3]] ∧ Hn = [] ∧ x < 256 ∧ s3.length ≤ c3 ∧ s3.length ≤ s.length ∧ E.Sb A s A3 s3 ∧ Cf.Res Cf.n1 (Cf.st2 sh s) x (Cf.st2 sh3 s3)) := by
  refine E.calls_of (vs := [.agg #[.slice A s.length c, .bool sh]]) (H := []) Try.func88 Try.ntmps88 rfl rfl (E.HA.start w0) ?_
  refine E.CW.seq ?_
  refine E.CW.region ?_
  refine E.OW.box rfl rfl rfl rfl rfl rfl (fun B1 => ?_)
  refine E.OW.pure rfl rfl rfl (E.PV.assign rfl rfl) ?_
  refine E.OW.alloc (in121.zr) rfl rfl rfl rfl rfl (fun B2 => ?_)
  refine E.OW.nil ?_
  refine E.then_n ?_
  refine E.CW.seq ?_
  refine E.CW.seq ?_
  refine E.CW.region ?_
  refine E.OW.pure rfl rfl rfl (E.PV.fieldAddr fa121_0 rfl rfl) ?_
  refine E.OW.pure rfl rfl rfl (E.PV.load (i := 1) na22 rfl rfl rfl rfl) ?_
  refine E.OW.pure rfl rfl rfl (E.PV.len Try.underlying22 rfl rfl) ?_
  refine E.OW.pure rfl rfl rfl (E.PV.eql rfl rfl rfl) ?_
  refine E.OW.nil ?_
  refine E.then_n ?_
  refine E.CW.cond rfl (fun hc => ?_) (fun hc => ?_)
  · simp only [E.b0, E.b1, E.b2, E.b3, E.b4, E.b5, E.b6, E.b7, E.b8, E.b9, E.b10, E.b11, E.b12, E.b13, E.b14, E.b15, E.b16, E.b17, E.b18, E.b19, E.b20, reduceCtorEq] at hc
    all_goals (
      refine E.CW.seq ?_
      refine E.CW.region ?_
      refine E.OW.pure rfl rfl rfl (E.PV.build (ps := [(1, .const (.bool true))]) rfl rfl (fun w => bld121_1 _ w)) ?_
      refine E.OW.pure rfl rfl rfl (E.PV.assign rfl rfl) ?_
      refine E.OW.store (i := 0) in121.size rfl rfl rfl rfl rfl rfl rfl rfl rfl ?_
      refine E.OW.nil ?_
      refine E.then_n ?_
      refine E.CW.ret ?_
      refine E.then_ret ?_
      refine E.KR.rv2 [] Try.results88 rfl (E.rv.cell is121 rfl (E.sli 0 rfl) rfl) rfl ?_
      exact ⟨0, none, 0, [], true, rfl, rfl, by omega, by simp, by simp, E.Sb.nil _ _ _, Cf.res_r0 (by omega)⟩)
  · simp only [E.b0, E.b1, E.b2, E.b3, E.b4, E.b5, E.b6, E.b7, E.b8, E.b9, E.b10, E.b11, E.b12, E.b13, E.b14, E.b15, E.b16, E.b17, E.b18, E.b19, E.b20, reduceCtorEq] at hc
    all_goals (
      refine E.CW.skip ?_
      refine E.then_n ?_
      refine E.CW.seq ?_
      have hpos : 0 < s.length := by omega
      have hy := (s.getD 0 0).toNat_lt
      refine E.CW.drawx mixed [1] rfl ?_
      all_goals (refine E.AW.first 0 rfl (by kernel_rfl) (by kernel_rfl) (by kernel_rfl) rfl rfl rfl (E.PV.fieldAddr fa121_0 rfl rfl) ?_)
      all_goals (refine E.AW.first 1 rfl (by kernel_rfl) (by kernel_rfl) (by kernel_rfl) rfl rfl rfl (E.PV.load (i := 0) na22 rfl rfl rfl rfl) ?_)
      all_goals (refine E.AW.first 2 rfl (by kernel_rfl) (by kernel_rfl) (by kernel_rfl) rfl rfl rfl (E.PV.indexAddr1 (E.rdc hX) Try.underlying22 in5 rfl rfl rfl rfl ?_ ?_) ?_; (focus (first | (simp; done) | (simp; omega))); (focus (omega)))
      all_goals (refine E.AW.first 3 rfl (by kernel_rfl) (by kernel_rfl) (by kernel_rfl) rfl rfl rfl (E.PV.load_u8 (E.rdc hX) na5 rfl rfl ?_) ?_; (focus (omega)))
      all_goals (refine E.AW.first 4 rfl (by kernel_rfl) (by kernel_rfl) (by kernel_rfl) rfl rfl rfl (E.PV.conv_in Try.underlying5 Try.underlying3 rfl rfl ?_) ?_; (focus (first | exact E.wrap_u8 _ | (simp only [IntKind.wrap_i64, IntKind.wrap_u64, IntKind.wrap_u8]; omega))))
      all_goals (refine E.AW.first 5 rfl (by kernel_rfl) (by kernel_rfl) (by kernel_rfl) rfl rfl rfl (E.PV.fieldAddr fa121_0 rfl rfl) ?_)
      all_goals (refine E.AW.first 6 rfl (by kernel_rfl) (by kernel_rfl) (by kernel_rfl) rfl rfl rfl (E.PV.load (i := 0) na22 rfl rfl rfl rfl) ?_)
      all_goals (refine E.AW.first 8 rfl (by kernel_rfl) (by kernel_rfl) (by kernel_rfl) rfl rfl rfl (E.PV.fieldAddr fa121_1 rfl rfl) ?_)
      all_goals (refine E.AW.first 9 rfl (by kernel_rfl) (by kernel_rfl) (by kernel_rfl) rfl rfl rfl (E.PV.load (i := 0) na4 rfl rfl rfl rfl) ?_)
      all_goals (refine E.AW.first 11 rfl (by kernel_rfl) (by kernel_rfl) (by kernel_rfl) rfl rfl rfl (E.PV.assign rfl rfl) ?_)
      all_goals (refine E.AW.one 7 (by kernel_rfl) rfl ?_)
      all_goals (refine E.OW.pure rfl rfl rfl (E.PV.sub1 (lo := 1) Try.underlying22 in5 rfl rfl rfl (by omega)) ?_)
      all_goals (first | (refine E.AW.nil [1] rfl ?_) | (refine E.AW.nil [2] rfl ?_) | (refine E.AW.nil [3] rfl ?_) | (refine E.AW.nil [4] rfl ?_) | (refine E.AW.nil [5] rfl ?_) | (refine E.AW.nil [6] rfl ?_) | (refine E.AW.nil [7] rfl ?_) | (refine E.AW.nil [0] rfl ?_) | (refine E.AW.nil [0] rfl ?_))
      all_goals (refine E.AW.put 16 (.slice (E.subA A c 1) (List.length (s.drop 1)) (c - 1)) rfl (by rw [List.length_drop]) ?_)
      all_goals (refine E.AW.first 10 rfl (by kernel_rfl) (by kernel_rfl) (by kernel_rfl) rfl rfl rfl (E.PV.build (ps := [(0, .tmp 16), (1, .tmp 18)]) rfl rfl (fun w => bld121_0_1 _ _ _ _ w)) ?_)
      all_goals (refine E.AW.one 12 (by kernel_rfl) rfl ?_)
      all_goals (refine E.OW.store (i := 0) in121.size rfl rfl rfl rfl rfl rfl rfl rfl rfl ?_)
      all_goals (first | (refine E.AW.nil [1] rfl ?_) | (refine E.AW.nil [2] rfl ?_) | (refine E.AW.nil [3] rfl ?_) | (refine E.AW.nil [4] rfl ?_) | (refine E.AW.nil [5] rfl ?_) | (refine E.AW.nil [6] rfl ?_) | (refine E.AW.nil [7] rfl ?_) | (refine E.AW.nil [0] rfl ?_) | (refine E.AW.nil [0] rfl ?_))
      all_goals (refine E.AW.done (by kernel_rfl) ?_)
      all_goals (
        skip
        refine E.then_n ?_
        refine E.CW.ret ?_
        refine E.KR.rv2 [] Try.results88 rfl (E.rv.cell is121 rfl (E.sli 0 rfl) rfl) rfl ?_
        exact ⟨_, _, _, s.drop 1, sh, rfl, rfl, by omega, by rw [List.length_drop]; omega, by rw [List.length_drop]; omega, E.Sb.drop (by omega) hcs, Cf.res_r1 hpos⟩))

set_option maxRecDepth 100000 in
theorem rsv_ok (A : Option Addr) (c : Nat) (s : List UInt8) (sh : Bool) (m : Nat) (w0 : World) (hm : m ≤ 100000) (hcs : s.length ≤ c) (hl : s.length ≤ 100000) (hX : E.Rd w0 (E.Old w0) A (E.u8s s)) :
    Calls Try.prog 89 #[.agg #[.slice A s.length c, .bool sh], .int .i64 m] w0 (E.Post w0 (E.Old w0) fun v Hn => ∃ A2 c2 L A3 c3 s3 sh3, v = .tuple #[.slice A2 (List.length L) c2, .agg #[.slice A3 (List.length s3) c3, .bool sh3]] ∧ Hn = [E.HP.row 5 1 A2 (List.length L) c2 (E.u8s L)] ∧ L.length ≤ m ∧ s3.length ≤ c3 ∧ s3.length ≤ s.length ∧ E.Sb A s A3 s3 ∧ Cf.Res (Cf.tk m) (Cf.st2 sh s) L (Cf.st2 sh3 s3)) := by
  refine E.calls_of (vs := [.agg #[.slice A s.length c, .bool sh], .int .i64 m]) (H := []) Try.func89 Try.ntmps89 rfl rfl (E.HA.start w0) ?_
  refine E.CW.seq ?_
  refine E.CW.region ?_
  refine E.OW.box rfl rfl rfl rfl rfl rfl (fun B1 => ?_)
  refine E.OW.pure rfl rfl rfl (E.PV.assign rfl rfl) ?_
  refine E.OW.alloc (in121.zr) rfl rfl rfl rfl rfl (fun B2 => ?_)
  refine E.OW.nil ?_
  refine E.then_n ?_
  refine E.CW.seq ?_
  refine E.CW.region ?_
  refine E.OW.pure rfl rfl rfl (E.PV.assign rfl rfl) ?_
  refine E.OW.nil ?_
  refine E.then_n ?_
  refine E.CW.seq ?_
  refine E.CW.seq ?_
  refine E.CW.nilrow 5 1 ?_
  refine E.CW.region ?_
  refine E.OW.pure rfl rfl rfl (E.PV.assign rfl rfl) ?_
  refine E.OW.nil ?_
  refine E.then_n ?_
  refine E.CW.block ?_
  refine E.CW.sels [2, 0, 0] rfl ?_
  refine E.CW.loopk [1, 2, 5] 2 rfl rfl (fun mm mods Hm => ∃ k : Nat, ∃ D : Option Addr, ∃ q : Nat, ∃ l : List UInt8, ∃ AR2 : Option Addr, ∃ c2 : Nat, ∃ s2 : List UInt8, ∃ sh2 : Bool, mm = m - k ∧ mods = [(7, .int .i64 k), (6, .slice D l.length q)] ∧ Hm = [E.HP.blk B1 121 [.slice AR2 s2.length c2, .bool sh2], E.HP.row 5 1 D l.length q (E.u8s l)] ∧ (k ≤ m ∧ l.length = k ∧ s2.length ≤ c2 ∧ s2.length ≤ s.length ∧ E.Sb A s AR2 s2 ∧ Cf.Res (Cf.tk k) (Cf.st2 sh s) l (Cf.st2 sh2 s2))) (m) ?_ ?_
  · exact ⟨[(7, _), (6, _)], (by repeat (first | exact E.cov_nil | refine ⟨rfl, ?_⟩)), 0, none, 0, [], A, c, s, sh, rfl, rfl, rfl, by omega, rfl, hcs, Nat.le_refl _, E.Sb.refl _ _, Cf.res_tk0 _⟩
  · rintro _ _ _ ⟨k, D, q, l, AR2, c2, s2, sh2, rfl, rfl, rfl, hk, hll, hc2, hl2, hSb2, hr2⟩
    have hX2 := hSb2 _ _ hX
    refine E.CW.seq ?_
    refine E.CW.seq ?_
    refine E.CW.region ?_
    refine E.OW.pure rfl rfl rfl (E.PV.move rfl rfl) ?_
    refine E.OW.pure rfl rfl rfl (E.PV.move rfl rfl) ?_
    refine E.OW.pure rfl rfl rfl (E.PV.lss rfl rfl rfl) ?_
    refine E.OW.pure rfl rfl rfl (E.PV.move rfl rfl) ?_
    all_goals (refine E.OW.split 12 rfl (fun hc => ?_) (fun hc => ?_) <;> (try simp only [E.b0, E.b1, E.b2, E.b3, E.b4, E.b5, E.b6, E.b7, E.b8, E.b9, E.b10, E.b11, E.b12, E.b13, E.b14, E.b15, E.b16, E.b17, E.b18, E.b19, E.b20, reduceCtorEq] at hc) <;> (try (exfalso; first | assumption | contradiction | omega)))
    all_goals (first | (refine E.OW.off rfl rfl rfl ?_) | (refine E.OW.pure rfl rfl rfl (E.PV.fieldAddr fa121_1 rfl rfl) ?_))
    all_goals (first | (refine E.OW.off rfl rfl rfl ?_) | (refine E.OW.pure rfl rfl rfl (E.PV.load (i := 0) na4 rfl rfl rfl rfl) ?_))
    all_goals (first | (refine E.OW.off rfl rfl rfl ?_) | (refine E.OW.pure rfl rfl rfl (E.PV.not rfl rfl) ?_))
    all_goals (first | (refine E.OW.pure rfl rfl rfl (E.PV.pick_t rfl rfl rfl) ?_) | (refine E.OW.pure rfl rfl rfl (E.PV.pick_f rfl rfl rfl) ?_))
    all_goals (
      refine E.OW.nil ?_
      refine E.then_n ?_
      refine E.CW.cond rfl (fun hc => ?_) (fun hc => ?_)
      · first | ((cases hc; done)) | (simp only [E.b0, E.b1, E.b2, E.b3, E.b4, E.b5, E.b6, E.b7, E.b8, E.b9, E.b10, E.b11, E.b12, E.b13, E.b14, E.b15, E.b16, E.b17, E.b18, E.b19, E.b20, reduceCtorEq] at hc)
        all_goals (
          refine E.CW.skip ?_
          refine E.then_n ?_
          refine E.CW.seq ?_
          refine E.CW.block ?_
          refine E.CW.seq ?_
          refine E.CW.region ?_
          refine E.OW.pure rfl rfl rfl (E.PV.assign rfl rfl) ?_
          refine E.OW.nil ?_
          refine E.then_n ?_
          refine E.CW.seq ?_
          refine E.CW.region ?_
          refine E.OW.pure rfl rfl rfl (E.PV.loads (i := 0) is121 rfl rfl rfl rfl) ?_
          (refine E.OW.call nm88 rfl rfl rfl rfl rfl rfl _ (fun w hw => rnx_ok _ _ _ _ w ?_ ?_ ?_) ?_; (focus (assumption)); (focus (omega)); (focus (refine hw.rd ?_; assumption)); rintro _ _ ⟨xN, AR3, c3, s3, sh3, rfl, rfl, hxN, hc3, hl3, hSb3, hr3⟩)
          refine E.OW.pure rfl rfl rfl (E.PV.move rfl rfl) ?_
          refine E.OW.pure rfl rfl rfl (E.PV.extract rfl rfl rfl) ?_
          refine E.OW.pure rfl rfl rfl (E.PV.extract rfl rfl rfl) ?_
          refine E.OW.pure rfl rfl rfl (E.PV.assign rfl rfl) ?_
          refine E.OW.store (i := 0) in121.size rfl rfl rfl rfl rfl rfl rfl rfl rfl ?_
          refine E.OW.nil ?_
          refine E.then_n ?_
          refine E.CW.region ?_
          refine E.OW.pure rfl rfl rfl (E.PV.move rfl rfl) ?_
          refine E.OW.pure rfl rfl rfl (E.PV.move rfl rfl) ?_
          refine E.OW.pure rfl rfl rfl (E.PV.conv_in Try.underlying3 Try.underlying5 rfl rfl ?_) ?_; (focus (first | exact E.wrap_u8 _ | (simp only [IntKind.wrap_i64, IntKind.wrap_u64, IntKind.wrap_u8]; omega)))
          refine E.OW.buildSlice (Et := 5) (sz := 1) (ps := [(0, .tmp 26)]) rfl rfl rfl rfl rfl (by simp) (by unfold maxLen; omega) (fun w => bsl22_1_0 _ w) (fun A3 => ?_)
          refine E.OW.app_u81 (j := 0) (i := 1) (UInt8.ofNat xN) ?_ Try.underlying22 in5 rfl rfl rfl rfl rfl rfl rfl rfl rfl rfl ?_ (fun A4 c4 => ?_); (focus (first | exact Cf.wrap_ofNat _ | exact Cf.ofNat_u8 hxN)); (focus ((first | omega | (simp only [List.length_append, List.length_cons, List.length_nil] at *; omega) | (unfold maxLen at *; omega))))
          refine E.OW.pure rfl rfl rfl (E.PV.assign rfl rfl) ?_
          refine E.OW.nil ?_
          refine E.blk_n ?_
          refine E.then_n ?_
          refine E.CW.region ?_
          refine E.OW.pure rfl rfl rfl (E.PV.move rfl rfl) ?_
          refine E.OW.pure rfl rfl rfl (E.PV.add_i64 rfl rfl rfl ?_) ?_; (focus (omega))
          refine E.OW.pure rfl rfl rfl (E.PV.assign rfl rfl) ?_
          refine E.OW.nil ?_
          refine E.then_nf ?_
          refine ⟨_, [(7, _), (6, _)], [1, 0, 0], _, ?_, by repeat (first | exact E.cov_nil | refine ⟨rfl, ?_⟩), rfl, k + 1, _, _, l ++ [UInt8.ofNat xN], AR3, c3, s3, sh3, rfl, rfl, rfl, by omega, by simp; omega, hc3, by omega, hSb2.trans hSb3, Cf.res_tk1 hr2 hr3⟩
          omega)
      · simp only [E.b0, E.b1, E.b2, E.b3, E.b4, E.b5, E.b6, E.b7, E.b8, E.b9, E.b10, E.b11, E.b12, E.b13, E.b14, E.b15, E.b16, E.b17, E.b18, E.b19, E.b20, reduceCtorEq] at hc
        all_goals (
          refine E.CW.exit ?_
          refine E.then_x ?_
          refine E.then_x ?_
          refine E.blk_eq ?_
          refine E.then_n ?_
          refine E.CW.seq ?_
          refine E.CW.drawx mixed [0] rfl ?_
          all_goals (refine E.AW.first 0 rfl (by kernel_rfl) (by kernel_rfl) (by kernel_rfl) rfl rfl rfl (E.PV.move rfl rfl) ?_)
          all_goals (refine E.AW.first 1 rfl (by kernel_rfl) (by kernel_rfl) (by kernel_rfl) rfl rfl rfl (E.PV.loads (i := 0) is121 rfl rfl rfl rfl) ?_)
          all_goals (refine E.AW.first 2 rfl (by kernel_rfl) (by kernel_rfl) (by kernel_rfl) rfl rfl rfl (E.PV.assign rfl rfl) ?_)
          all_goals (refine E.AW.one 3 (by kernel_rfl) rfl ?_)
          all_goals (refine E.OW.store (i := 2) in121.size rfl rfl rfl rfl rfl rfl rfl rfl rfl ?_)
          all_goals (first | (refine E.AW.nil [0] rfl ?_) | (refine E.AW.nil [1] rfl ?_) | (refine E.AW.nil [2] rfl ?_) | (refine E.AW.nil [3] rfl ?_) | (refine E.AW.nil [4] rfl ?_) | (refine E.AW.nil [5] rfl ?_) | (refine E.AW.nil [6] rfl ?_) | (refine E.AW.nil [0] rfl ?_) | (refine E.AW.nil [0] rfl ?_))
          all_goals (refine E.AW.done (by kernel_rfl) ?_)
          all_goals (
            skip
            refine E.then_n ?_
            refine E.CW.ret ?_
            refine E.KR.rv2 [2] Try.results89 rfl (E.rv.cell is121 rfl (E.sli 0 rfl) rfl) rfl ?_
            exact ⟨_, _, l, _, _, s2, sh2, rfl, rfl, by omega, hc2, hl2, hSb2, Cf.res_end hr2 hk (by first | (left; omega) | (right; assumption) | (right; simp_all; done))⟩)))

set_option maxRecDepth 100000 in
theorem rct_ok (A : Option Addr) (c : Nat) (s : List UInt8) (sh : Bool)  (w0 : World) (hcs : s.length ≤ c) (hl : s.length ≤ 100000) (hX : E.Rd w0 (E.Old w0) A (E.u8s s)) :
    Calls Try.prog 90 #[.agg #[.slice A s.length c, .bool sh]] w0 (E.Post w0 (E.Old w0) fun v Hn => ∃ A2 c2 L A3 c3 s3 sh3, v = .tuple #[.slice A2 (List.length L) c2, .agg #[.slice A3 (List.length s3) c3, .bool sh3]] ∧ Hn = [E.HP.row 3 1 A2 (List.length L) c2 (E.ints L)] ∧ Cf.tiny L ∧ s3.length ≤ c3 ∧ s3.length ≤ s.length ∧ E.Sb A s A3 s3 ∧ Cf.Res Cf.ls (Cf.st2 sh s) L (Cf.st2 sh3 s3)) := by
  refine E.calls_of (vs := [.agg #[.slice A s.length c, .bool sh]]) (H := []) Try.func90 Try.ntmps90 rfl rfl (E.HA.start w0) ?_
  refine E.CW.seq ?_
  refine E.CW.region ?_
  refine E.OW.box rfl rfl rfl rfl rfl rfl (fun B1 => ?_)
  refine E.OW.pure rfl rfl rfl (E.PV.assign rfl rfl) ?_
  refine E.OW.alloc (in121.zr) rfl rfl rfl rfl rfl (fun B2 => ?_)
  refine E.OW.nil ?_
  refine E.then_n ?_
  refine E.CW.seq ?_
  refine E.CW.region ?_
  refine E.OW.pure rfl rfl rfl (E.PV.loads (i := 1) is121 rfl rfl rfl rfl) ?_
  (refine E.OW.call nm88 rfl rfl rfl rfl rfl rfl _ (fun w hw => rnx_ok _ _ _ _ w ?_ ?_ ?_) ?_; (focus (assumption)); (focus (assumption)); (focus (refine hw.rd ?_; assumption)); rintro _ _ ⟨xN, AR3, c3, s3, sh3, rfl, rfl, hxN, hc3, hl3, hSb3, hr3⟩)
  refine E.OW.pure rfl rfl rfl (E.PV.move rfl rfl) ?_
  refine E.OW.pure rfl rfl rfl (E.PV.extract rfl rfl rfl) ?_
  refine E.OW.pure rfl rfl rfl (E.PV.extract rfl rfl rfl) ?_
  refine E.OW.pure rfl rfl rfl (E.PV.assign rfl rfl) ?_
  refine E.OW.store (i := 1) in121.size rfl rfl rfl rfl rfl rfl rfl rfl rfl ?_
  refine E.OW.nil ?_
  refine E.then_n ?_
  refine E.CW.seq ?_
  have hX3 := hSb3 _ _ hX
  refine E.CW.region ?_
  refine E.OW.pure rfl rfl rfl (E.PV.loads (i := 0) is121 rfl rfl rfl rfl) ?_
  refine E.OW.pure rfl rfl rfl (E.PV.move rfl rfl) ?_
  (refine E.OW.call nm89 rfl rfl rfl rfl rfl rfl _ (fun w hw => rsv_ok _ _ _ _ xN w ?_ ?_ ?_ ?_) ?_; (focus (omega)); (focus (assumption)); (focus (omega)); (focus (refine hw.rd ?_; assumption)); rintro _ _ ⟨AS, cS, LS, AR4, c4, s4, sh4, rfl, rfl, hLS, hc4, hl4, hSb4, hr4⟩)
  refine E.OW.pure rfl rfl rfl (E.PV.move rfl rfl) ?_
  refine E.OW.pure rfl rfl rfl (E.PV.extract rfl rfl rfl) ?_
  refine E.OW.pure rfl rfl rfl (E.PV.extract rfl rfl rfl) ?_
  refine E.OW.pure rfl rfl rfl (E.PV.assign rfl rfl) ?_
  refine E.OW.store (i := 1) in121.size rfl rfl rfl rfl rfl rfl rfl rfl rfl ?_
  refine E.OW.nil ?_
  refine E.then_n ?_
  refine E.CW.seq ?_
  refine E.CW.region ?_
  refine E.OW.pure rfl rfl rfl (E.PV.assign rfl rfl) ?_
  refine E.OW.nil ?_
  refine E.then_n ?_
  refine E.CW.seq ?_
  refine E.CW.seq ?_
  refine E.CW.nilrow 3 1 ?_
  refine E.CW.region ?_
  refine E.OW.pure rfl rfl rfl (E.PV.assign rfl rfl) ?_
  refine E.OW.nil ?_
  refine E.then_n ?_
  refine E.CW.block ?_
  refine E.CW.loopk [1, 3, 5] 1 rfl rfl (fun mm mods Hm => ∃ k : Nat, ∃ D : Option Addr, ∃ q : Nat, mm = LS.length - k ∧ mods = [(7, .int .i64 k), (6, .slice D (Cf.is (LS.take k)).length q)] ∧ Hm = [E.HP.row 3 1 D (Cf.is (LS.take k)).length q (E.ints (Cf.is (LS.take k)))] ∧ k ≤ LS.length) (LS.length) ?_ ?_
  · exact ⟨[(7, _), (6, _)], (by repeat (first | exact E.cov_nil | refine ⟨rfl, ?_⟩)), 0, none, 0, rfl, rfl, rfl, by omega⟩
  · rintro _ _ _ ⟨k, D, q, rfl, rfl, rfl, hk⟩
    have hil : (Cf.is (LS.take k)).length = k := by simp [Cf.is]; omega
    refine E.CW.seq ?_
    refine E.CW.seq ?_
    refine E.CW.region ?_
    refine E.OW.pure rfl rfl rfl (E.PV.move rfl rfl) ?_
    refine E.OW.pure rfl rfl rfl (E.PV.move rfl rfl) ?_
    refine E.OW.pure rfl rfl rfl (E.PV.len Try.underlying22 rfl rfl) ?_
    refine E.OW.pure rfl rfl rfl (E.PV.lss rfl rfl rfl) ?_
    refine E.OW.nil ?_
    refine E.then_n ?_
    refine E.CW.cond rfl (fun hc => ?_) (fun hc => ?_)
    · simp only [E.b0, E.b1, E.b2, E.b3, E.b4, E.b5, E.b6, E.b7, E.b8, E.b9, E.b10, E.b11, E.b12, E.b13, E.b14, E.b15, E.b16, E.b17, E.b18, E.b19, E.b20, reduceCtorEq] at hc
      all_goals (
        refine E.CW.skip ?_
        refine E.then_n ?_
        refine E.CW.seq ?_
        refine E.CW.block ?_
        refine E.CW.region ?_
        refine E.OW.pure rfl rfl rfl (E.PV.move rfl rfl) ?_
        refine E.OW.pure rfl rfl rfl (E.PV.move rfl rfl) ?_
        refine E.OW.pure rfl rfl rfl (E.PV.move rfl rfl) ?_
        refine E.OW.pure rfl rfl rfl (E.PV.indexAddr1 (E.rdr (i := 2) rfl) Try.underlying22 in5 rfl rfl rfl rfl ?_ ?_) ?_; (focus (first | (simp; done) | (simp; omega))); (focus (omega))
        refine E.OW.pure rfl rfl rfl (E.PV.load_u8 (E.rdr (i := 2) rfl) na5 rfl rfl ?_) ?_; (focus (omega))
        refine E.OW.pure rfl rfl rfl (E.PV.conv_in Try.underlying5 Try.underlying3 rfl rfl ?_) ?_; (focus (first | exact E.wrap_u8 _ | (simp only [IntKind.wrap_i64, IntKind.wrap_u64, IntKind.wrap_u8]; omega)))
        refine E.OW.buildSlice (Et := 3) (sz := 1) (ps := [(0, .tmp 30)]) rfl rfl rfl rfl rfl (by simp) (by unfold maxLen; omega) (fun w => bsl31_1_0 _ w) (fun A3 => ?_)
        refine E.OW.app_int1 (j := 0) (i := 0) Try.underlying31 in3 rfl rfl rfl rfl rfl rfl rfl rfl rfl rfl ?_ (fun A4 c4 => ?_); (focus ((first | omega | (simp only [List.length_append, List.length_cons, List.length_nil] at *; omega) | (unfold maxLen at *; omega))))
        refine E.OW.pure rfl rfl rfl (E.PV.assign rfl rfl) ?_
        refine E.OW.nil ?_
        refine E.blk_n ?_
        refine E.then_n ?_
        refine E.CW.region ?_
        refine E.OW.pure rfl rfl rfl (E.PV.move rfl rfl) ?_
        refine E.OW.pure rfl rfl rfl (E.PV.add_i64 rfl rfl rfl ?_) ?_; (focus (omega))
        refine E.OW.pure rfl rfl rfl (E.PV.assign rfl rfl) ?_
        refine E.OW.nil ?_
        refine E.then_nf ?_
        refine ⟨_, [(7, _), (6, _)], [0, 0, 0, 0], _, ?_, by repeat (first | exact E.cov_nil | refine ⟨rfl, ?_⟩), rfl, k + 1, _, _, rfl, by rw [Cf.is_take (show k < LS.length by omega)]; rfl, by rw [Cf.is_take (show k < LS.length by omega)], by omega⟩
        omega)
    · simp only [E.b0, E.b1, E.b2, E.b3, E.b4, E.b5, E.b6, E.b7, E.b8, E.b9, E.b10, E.b11, E.b12, E.b13, E.b14, E.b15, E.b16, E.b17, E.b18, E.b19, E.b20, reduceCtorEq] at hc
      all_goals (
        refine E.CW.exit ?_
        refine E.then_x ?_
        refine E.then_x ?_
        refine E.blk_eq ?_
        refine E.then_n ?_
        refine E.CW.seq ?_
        refine E.CW.drawx mixed [1] rfl ?_
        all_goals (refine E.AW.first 0 rfl (by kernel_rfl) (by kernel_rfl) (by kernel_rfl) rfl rfl rfl (E.PV.move rfl rfl) ?_)
        all_goals (refine E.AW.first 1 rfl (by kernel_rfl) (by kernel_rfl) (by kernel_rfl) rfl rfl rfl (E.PV.loads (i := 0) is121 rfl rfl rfl rfl) ?_)
        all_goals (refine E.AW.first 2 rfl (by kernel_rfl) (by kernel_rfl) (by kernel_rfl) rfl rfl rfl (E.PV.assign rfl rfl) ?_)
        all_goals (refine E.AW.one 3 (by kernel_rfl) rfl ?_)
        all_goals (refine E.OW.store (i := 3) in121.size rfl rfl rfl rfl rfl rfl rfl rfl rfl ?_)
        all_goals (first | (refine E.AW.nil [1] rfl ?_) | (refine E.AW.nil [2] rfl ?_) | (refine E.AW.nil [3] rfl ?_) | (refine E.AW.nil [4] rfl ?_) | (refine E.AW.nil [5] rfl ?_) | (refine E.AW.nil [6] rfl ?_) | (refine E.AW.nil [7] rfl ?_) | (refine E.AW.nil [0] rfl ?_) | (refine E.AW.nil [0] rfl ?_))
        all_goals (refine E.AW.done (by kernel_rfl) ?_)
        all_goals (
          skip
          refine E.then_n ?_
          refine E.CW.ret ?_
          refine E.KR.rv2 [1] Try.results90 rfl (E.rv.cell is121 rfl (E.sli 0 rfl) rfl) rfl ?_
          obtain rfl : k = LS.length := by omega
          rw [List.take_length]
          exact ⟨_, _, _, _, _, s4, sh4, rfl, rfl, ⟨by simp [Cf.is]; omega, Cf.is_b⟩, hc4, by omega, hSb3.trans hSb4, Cf.res_ls hr3 hr4⟩))
end Go.Proofs.Ytbdfljgnlendjaa
