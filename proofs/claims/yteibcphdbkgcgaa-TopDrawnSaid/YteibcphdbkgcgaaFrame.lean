/- From a law's walk to the given row: how the arguments are opened, and how the row's end is met. No program in sight. -/
import Derived.Test.YteibcphdbkgcgaaLaws
import Derived.WalkKit
import Derived.ProofKit
import Derived.OpenShut
import Derived.ShutString
import Derived.ChangeOld
import Derived.SizedLaws
namespace Go.Proofs.Yteibcphdbkgcgaa
namespace E
open Go Go.RowKit Go.WideShapes Go.ChangeShapes Go.ChangeAt

theorem HA.below {w w' : World} {Hn : List HP} (h : HA w (Old w) Hn w') : Below w.heap.size w w' := ⟨h.os, h.tape, h.output, h.size, fun k hk => h.kept k hk⟩

section
variable {H : Type} {enc : TypeId × Value → H} {P : Program}

theorem stays_all (hl : laidOutB P = true) {W W' : World} {sp : Nat → Bool} (hb : Below W.heap.size W W') : ∀ {ts : List TypeId} {vs : List Value} {ds : List (DataW H)} {ps : List MemPlace},
    ts.all (fun t => P.readableRec t && decide (t < P.types.size)) = true → DataW.TrodAll enc P W 0 (fun _ => true) true ts vs ds ps → (∀ p ∈ ps, p.block < W.heap.size ∧ sp p.block = true) →
    DataW.TrodAll enc P W' 0 sp true ts vs ds ps := by
  intro ts
  induction ts with
  | nil =>
    intro vs ds ps _ h _
    obtain ⟨rfl, rfl, rfl⟩ := trodAll_nil h
    exact trodAll_mk0
  | cons t ts ih =>
    intro vs ds ps hr h hp
    obtain ⟨v, vs', d, ds', p, q, rfl, rfl, rfl, h0, r0⟩ := trodAll_cons h
    simp only [List.all_cons, Bool.and_eq_true, decide_eq_true_eq] at hr
    refine trodAll_cons_mk (WideElems.Trod_stays hl hr.1.1 hr.1.2 h0 (fun x hx => hb.same (hp x (by simp [hx])).1) (fun x hx => (hp x (by simp [hx])).2)) (ih (by simpa using hr.2) r0 fun x hx => hp x (by simp [hx]))

/-- the row's end for a law: it returns true, and what was there is as it was. -/
theorem law_fin {f : Func} {s : ChangeSpec} {tb : TypeId} {W W' : World} {args : Array Value} {ds gs : List (DataW H)} {before : List MemPlace} {Hn : List HP}
    (hl : laidOutB P = true) (hp : f.params.toList.all (fun t => P.readableRec t && decide (t < P.types.size)) = true) (hsv : s.vars = []) (hrt : f.resultTypes = #[tb]) (hb : P.underlying tb = some .bool)
    (hfn : ∀ gs, gs = [] → s.fn H (ds ++ gs) = { results := [.lit (.bool true)], args := ds })
    (hW : DataW.Whole enc P f.params.toList s.vars false W args.toList ds gs before) (hA : HA W (Old W) Hn W') :
    s.post enc P f false true false false W args (.bool true) W' := by
  have hlt : ∀ p ∈ before, p.block < W.heap.size := fun p hp => hW.lt p hp
  have hB := hA.below
  have hW0 := hW
  obtain ⟨p, q, hT, hV, hps, _, _⟩ := hW
  rw [hsv] at hV
  obtain ⟨hg, hq⟩ := trodVars_none hV
  have hf := hfn gs hg
  subst hg hq
  have hpq : before = p := by rw [hps]; simp
  subst hpq
  refine ⟨ds, [], before, [], before, [], hW0, ?_, ?_, ?_, World.keptBut_mono (fun x hx => ⟨hx, .inr (.inl hx)⟩) (hB.frame (· ∈ before)), fun h => by cases h⟩
  · rw [hf, hrt]
    exact trodAll_mk1 (shut_bool hb true)
  · rw [hf]
    exact stays_all hl hB hp hT fun x hx => ⟨hlt x hx, by simpa using hlt x hx⟩
  · rw [hf, hsv]
    rfl

/-! ### Opening cells -/
theorem wf_i64 {n : Int} (h : (Lit.int .i64 n).wf = true) : -9223372036854775808 ≤ n ∧ n ≤ 9223372036854775807 := by
  simp [Lit.wf, IntKind.min, IntKind.max, IntKind.signed, IntKind.bits] at h; omega
theorem wf_u64 {n : Int} (h : (Lit.int .u64 n).wf = true) : 0 ≤ n ∧ n < 18446744073709551616 := by
  simp [Lit.wf, IntKind.min, IntKind.max, IntKind.signed, IntKind.bits] at h; omega
theorem wf_u8 {n : Int} (h : (Lit.int .u8 n).wf = true) : 0 ≤ n ∧ n < 256 := by
  simp [Lit.wf, IntKind.min, IntKind.max, IntKind.signed, IntKind.bits] at h; omega

theorem u8_of {n : Int} (h : 0 ≤ n ∧ n < 256) : ∃ b : UInt8, n = (b.toNat : Int) := ⟨UInt8.ofNat n.toNat, by
  rw [UInt8.toNat_ofNat']
  omega⟩

variable {w : World} {fuel : Nat} {cs : List Value} {x : DataW H × List MemPlace}

theorem tk {t : TypeId} {k n : Nat} {xs : List Value} {o : Option (DataW H × List MemPlace)} (h : DataW.trod enc P w 0 (fun _ => true) true n t (List.take (P.cellsOf t) xs) = o) (hc : P.cellsOf t = k) :
    DataW.trod enc P w 0 (fun _ => true) true n t (List.take k xs) = o := by rw [← hc]; exact h
theorem rc_i64 {t : TypeId} (ht : P.underlying t = some (.int .i64)) (h : DataW.trod enc P w 0 (fun _ => true) true fuel t cs = some x) : ∃ n : Int, cs = [.int .i64 n] ∧ -9223372036854775808 ≤ n ∧ n ≤ 9223372036854775807 := by
  obtain ⟨n, h1, _, h3⟩ := DataW.trod_int ht h
  exact ⟨n, h1, wf_i64 h3⟩
theorem rc_u64 {t : TypeId} (ht : P.underlying t = some (.int .u64)) (h : DataW.trod enc P w 0 (fun _ => true) true fuel t cs = some x) : ∃ n : Int, cs = [.int .u64 n] ∧ 0 ≤ n ∧ n < 18446744073709551616 := by
  obtain ⟨n, h1, _, h3⟩ := DataW.trod_int ht h
  exact ⟨n, h1, wf_u64 h3⟩
theorem rc_u8 {t : TypeId} (ht : P.underlying t = some (.int .u8)) (h : DataW.trod enc P w 0 (fun _ => true) true fuel t cs = some x) : ∃ n : UInt8, cs = [.int .u8 (n.toNat : Int)] := by
  obtain ⟨n, h1, _, h3⟩ := DataW.trod_int ht h
  obtain ⟨b, rfl⟩ := u8_of (wf_u8 h3)
  exact ⟨b, h1⟩
theorem rc_bool {t : TypeId} (ht : P.underlying t = some .bool) (h : DataW.trod enc P w 0 (fun _ => true) true fuel t cs = some x) : ∃ b : Bool, cs = [.bool b] := by
  obtain ⟨b, h1, _⟩ := DataW.trod_bool ht h
  exact ⟨b, h1⟩
theorem rc_str {t : TypeId} (ht : P.underlying t = some .string) (h : DataW.trod enc P w 0 (fun _ => true) true fuel t cs = some x) (hw : (x.1.weights P t).all (· ≤ reachBytes) = true) : ∃ s : List UInt8, cs = [sv s] ∧ s.length ≤ 140737488351232 := by
  obtain ⟨s, h1, h2, _⟩ := DataW.trod_string ht h
  subst h2
  refine ⟨s.data.toList, h1, ?_⟩
  have h2 : s.data.toList.length ≤ reachBytes := by simpa [DataW.weights] using hw
  exact h2

theorem rd_of_cells {A : Addr} {xs : List Value} (h : ∀ i v, xs[i]? = some v → w.cell? (A.add i) = some v) : Rd w (Old w) (some A) xs := fun hx => by
  refine ⟨A, rfl, ?_, h⟩
  have h0 := h 0 (xs[0]) (by simp [hx])
  have := World.block_lt_of_cell? w _ h0
  rwa [Addr.add_block] at this

theorem rc_ints {t e : TypeId} (ht : P.underlying t = some (.slice e)) (he : P.underlying e = some (.int .i64)) (hc : P.cellsOf e = 1) (hby : P.bytesOf e = 8) (h : DataW.trod enc P w 0 (fun _ => true) true fuel t cs = some x)
    (hw : (x.1.weights P t).all (· ≤ reachBytes) = true) :
    ∃ (A : Option Addr) (c : Nat) (l : List Int), cs = [.slice A l.length c] ∧ Rd w (Old w) A (ints l) ∧ l.length * 8 ≤ 140737488351232 ∧ ∀ n ∈ l, -9223372036854775808 ≤ n ∧ n ≤ 9223372036854775807 := by
  rcases open_ints ht he hc h with ⟨rfl, _⟩ | ⟨a, len, cap, zs, rfl, _, hl, _, hz, hx, hcell, hwf⟩
  · exact ⟨none, 0, [], rfl, Rd.nil, by simp, by simp⟩
  · subst hx
    simp only [if_true] at hz
    have hw1 : ((zs.take len).length + (zs.drop len).length) * P.bytesOf e ≤ reachBytes := by
      have := List.all_eq_true.1 hw (((zs.take len).length + (zs.drop len).length) * P.bytesOf e) (by simp [DataW.weights, ht, lits])
      simpa using this
    rw [hby, List.length_take, List.length_drop] at hw1
    unfold reachBytes at hw1
    refine ⟨some a, cap, zs.take len, by rw [List.length_take]; congr 2; omega, rd_of_cells fun i v hv => ?_, by rw [List.length_take]; omega, fun n hn => wf_i64 (hwf n (List.mem_of_mem_take hn))⟩
    have hlt : i < zs.length := by
      rcases Nat.lt_or_ge i zs.length with h | h
      · exact h
      · rw [List.getElem?_eq_none (by simp [ints]; omega)] at hv; cases hv
    rw [hcell i hlt]
    simp only [ints, List.getElem?_map, List.getElem?_take] at hv
    split at hv
    · simp [List.getElem?_eq_getElem hlt] at hv
      simp [List.getD, List.getElem?_eq_getElem hlt, hv]
    · simp at hv

theorem rc_u8s {t e : TypeId} (ht : P.underlying t = some (.slice e)) (he : P.underlying e = some (.int .u8)) (hc : P.cellsOf e = 1) (hby : P.bytesOf e = 1) (h : DataW.trod enc P w 0 (fun _ => true) true fuel t cs = some x)
    (hw : (x.1.weights P t).all (· ≤ reachBytes) = true) :
    ∃ (A : Option Addr) (c : Nat) (l : List UInt8), cs = [.slice A l.length c] ∧ Rd w (Old w) A (u8s l) ∧ l.length ≤ 140737488351232 := by
  rcases open_ints ht he hc h with ⟨rfl, _⟩ | ⟨a, len, cap, zs, rfl, _, hl, _, hz, hx, hcell, hwf⟩
  · exact ⟨none, 0, [], rfl, Rd.nil, by simp⟩
  · subst hx
    simp only [if_true] at hz
    have hw1 : ((zs.take len).length + (zs.drop len).length) * P.bytesOf e ≤ reachBytes := by
      have := List.all_eq_true.1 hw (((zs.take len).length + (zs.drop len).length) * P.bytesOf e) (by simp [DataW.weights, ht, lits])
      simpa using this
    rw [hby, List.length_take, List.length_drop] at hw1
    unfold reachBytes at hw1
    have hm : ∀ n ∈ zs, ((UInt8.ofNat n.toNat).toNat : Int) = n := fun n hn => by
      have := wf_u8 (hwf n hn)
      rw [UInt8.toNat_ofNat']
      omega
    refine ⟨some a, cap, (zs.take len).map fun n => UInt8.ofNat n.toNat, by rw [List.length_map, List.length_take]; congr 2; omega, rd_of_cells fun i v hv => ?_, by rw [List.length_map, List.length_take]; omega⟩
    have hlt : i < zs.length := by
      rcases Nat.lt_or_ge i zs.length with h | h
      · exact h
      · rw [List.getElem?_eq_none (by simp [u8s]; omega)] at hv; cases hv
    rw [hcell i hlt]
    simp only [u8s, List.getElem?_map, List.getElem?_take] at hv
    split at hv
    · simp only [List.getElem?_eq_getElem hlt, Option.map_some, Option.some.injEq] at hv
      rw [← hv, hm _ (List.getElem_mem hlt)]
      simp [List.getD, List.getElem?_eq_getElem hlt]
    · simp at hv

/-! ### Opening arguments -/
section
variable {r : Reach} {b0 : Nat} {v : Value} {d : DataW H} {ps : List MemPlace} {t e : TypeId}
theorem op_i64 (ht : P.underlying t = some (.int .i64)) (hval : Value.okWide P w r b0 t v) (h : DataW.Trod enc P w 0 (fun _ => true) true t v d ps) (_hw : (d.weights P t).all (· ≤ reachBytes) = true) : ∃ n : Int, v = .int .i64 n ∧ -9223372036854775808 ≤ n ∧ n ≤ 9223372036854775807 := by
  obtain ⟨n, h1, _, _, h3⟩ := open_int ht hval h
  exact ⟨n, h1, wf_i64 h3⟩
theorem op_u64 (ht : P.underlying t = some (.int .u64)) (hval : Value.okWide P w r b0 t v) (h : DataW.Trod enc P w 0 (fun _ => true) true t v d ps) (_hw : (d.weights P t).all (· ≤ reachBytes) = true) : ∃ n : Int, v = .int .u64 n ∧ 0 ≤ n ∧ n < 18446744073709551616 := by
  obtain ⟨n, h1, _, _, h3⟩ := open_int ht hval h
  exact ⟨n, h1, wf_u64 h3⟩
theorem op_u8 (ht : P.underlying t = some (.int .u8)) (hval : Value.okWide P w r b0 t v) (h : DataW.Trod enc P w 0 (fun _ => true) true t v d ps) (_hw : (d.weights P t).all (· ≤ reachBytes) = true) : ∃ n : UInt8, v = .int .u8 (n.toNat : Int) := by
  obtain ⟨n, h1, _, _, h3⟩ := open_int ht hval h
  obtain ⟨b, rfl⟩ := u8_of (wf_u8 h3)
  exact ⟨b, h1⟩
theorem op_bool (ht : P.underlying t = some .bool) (hval : Value.okWide P w r b0 t v) (h : DataW.Trod enc P w 0 (fun _ => true) true t v d ps) (_hw : (d.weights P t).all (· ≤ reachBytes) = true) : ∃ b : Bool, v = .bool b := by
  obtain ⟨b, h1, _⟩ := open_bool ht hval h
  exact ⟨b, h1⟩
theorem op_str (ht : P.underlying t = some .string) (hval : Value.okWide P w r b0 t v) (h : DataW.Trod enc P w 0 (fun _ => true) true t v d ps) (hw : (d.weights P t).all (· ≤ reachBytes) = true) : ∃ s : List UInt8, v = sv s ∧ s.length ≤ 140737488351232 := by
  obtain ⟨s, rfl⟩ := okWide_string ht hval
  obtain ⟨fuel, hf⟩ := h
  obtain ⟨l, h1, h2⟩ := rc_str ht hf hw
  simp [Value.cells] at h1
  exact ⟨l, h1, h2⟩
theorem op_ints (ht : P.underlying t = some (.slice e)) (he : P.underlying e = some (.int .i64)) (hc : P.cellsOf e = 1) (hby : P.bytesOf e = 8) (hval : Value.okWide P w r b0 t v) (h : DataW.Trod enc P w 0 (fun _ => true) true t v d ps)
    (hw : (d.weights P t).all (· ≤ reachBytes) = true) : ∃ (A : Option Addr) (c : Nat) (l : List Int), v = .slice A l.length c ∧ Rd w (Old w) A (ints l) ∧ l.length * 8 ≤ 140737488351232 ∧ ∀ n ∈ l, -9223372036854775808 ≤ n ∧ n ≤ 9223372036854775807 := by
  obtain ⟨a, len, cap, rfl⟩ := okWide_slice ht hval
  obtain ⟨fuel, hf⟩ := h
  obtain ⟨A, c, l, h1, h2⟩ := rc_ints ht he hc hby hf hw
  simp only [Value.cells, List.cons.injEq, and_true] at h1
  exact ⟨A, c, l, h1, h2⟩
theorem op_u8s (ht : P.underlying t = some (.slice e)) (he : P.underlying e = some (.int .u8)) (hc : P.cellsOf e = 1) (hby : P.bytesOf e = 1) (hval : Value.okWide P w r b0 t v) (h : DataW.Trod enc P w 0 (fun _ => true) true t v d ps)
    (hw : (d.weights P t).all (· ≤ reachBytes) = true) : ∃ (A : Option Addr) (c : Nat) (l : List UInt8), v = .slice A l.length c ∧ Rd w (Old w) A (u8s l) ∧ l.length ≤ 140737488351232 := by
  obtain ⟨a, len, cap, rfl⟩ := okWide_slice ht hval
  obtain ⟨fuel, hf⟩ := h
  obtain ⟨A, c, l, h1, h2⟩ := rc_u8s ht he hc hby hf hw
  simp only [Value.cells, List.cons.injEq, and_true] at h1
  exact ⟨A, c, l, h1, h2⟩
end

/-- the weights of one argument among all. -/
theorem weights_at {ts : List TypeId} {ds : List (DataW H)} (h : (DataW.weightsEach P ts ds).all (· ≤ reachBytes) = true) {j : Nat} {t : TypeId} {d : DataW H} (ht : ts[j]? = some t) (hd : ds[j]? = some d) :
    (d.weights P t).all (· ≤ reachBytes) = true :=
  List.all_eq_true.2 fun n hn => List.all_eq_true.1 h n (DataW.weights_mem_each ht hd n hn)
end
end E
end Go.Proofs.Yteibcphdbkgcgaa
