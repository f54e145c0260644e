/- More laws of single operations: caps, cut slices, functions with captured values, maps that the function has made, slices of pairs. No program in sight. -/
import Derived.Test.YteibcphdbkgcgaaTm
import Derived.Maps.Own
import Derived.Lib.AppendZeros
namespace Go.Proofs.Yteibcphdbkgcgaa
namespace E
open Go Go.RowKit
set_option linter.unusedSimpArgs false
set_option linter.unusedVariables false

section
variable {P : Program} {n : Nat} {w0 : World} {F : Nat → Prop} {K : Kt} {l : Env} {H : List HP} {o : Oper}

theorem PV.cap {x : Operand} {t : TypeId} {A : Option Addr} {m c : Nat} (hT : P.underlying t = some (.slice (P.elem t))) (ho : o.op = .call { callee := .builtin .cap, args := #[x], argTypes := #[t] }) (hx : ev l x = some (.slice A m c)) :
    PV P n w0 F l H o (.int .i64 c) := fun a w ha _ => by
  simp [execOp, ho, resolve, invoke, builtin, ha.ev hx, run_cap_slice w t o.type A m c hT, goInt]

theorem PV.makeFunc {f : Fn} {fs cs : List Operand} {us vs : List Value} (ho : o.op = .makeFunc f fs.toArray cs.toArray) (h1 : evs l fs = some us) (h2 : evs l cs = some vs) : PV P n w0 F l H o (.func f us.toArray vs.toArray) := fun a w ha _ => by
  have e1 := ha.evs h1
  have e2 := ha.evs h2
  simp [execOp, ho, Instr.makeFunc, e1, e2]

theorem HA.rdblk {w : World} (h : HA w0 F H w) {i B T : Nat} {cs : List Value} {H' : List HP} (hi : E.sel H i = some (HP.blk B T cs, H')) : Rd w (Old w) (some ⟨B, 0, .none⟩) cs := fun hx => by
  have hb := h.blk hi
  refine ⟨_, rfl, (Array.getElem?_eq_some_iff.1 hb).1, fun j u hu => ?_⟩
  have hadd : (⟨B, 0, .none⟩ : Addr).add j = ⟨B, j, .none⟩ := by unfold Addr.add; split <;> simp_all
  rw [hadd, cell_of_row w B j _ T (0, 0) hb]
  simpa using hu

/-! ### append of a make onto nil; a slice cut -/
theorem Chunks.new_rowc {w : World} {Et sz m c : Nat} {cur : Array Value} (hl : cur.size = c * sz) (hm : m ≤ c) (hc : c ≤ maxLen) :
    Chunks (w.alloc (.cells cur Et)) (fun k => k < w.heap.size) [HP.row Et sz (some ⟨w.heap.size, 0, none⟩) m c (cur.toList.take (m * sz))] :=
  ⟨fun k => k = w.heap.size, ⟨fun k => by simp [Value.ownBlock, eq_comm], by rw [List.length_take, Array.length_toList, hl]; exact Nat.min_eq_left (Nat.mul_le_mul_right _ hm),
    .inr ⟨w.heap.size, c, cur, rfl, Nat.zero_le _, heap_alloc_new w _, hm, hc, hl, rfl⟩⟩, fun k hk => by subst hk; simp, trivial⟩

theorem OW.app_zeros {ops : Array Oper} {rest : List Oper} {d t tn Et bytes : Nat} {s x : Operand} {z : Value} {zs : List Value} (m : Nat) (hT : P.underlying t = some (.slice Et)) (htn : P.underlying tn = some (.int .i64)) (hI : In P Et z 1 bytes) (hz : z.cells = zs.toArray) (hzl : zs.length = 1)
    (ho : o.op = .call { callee := .builtin .append, args := #[s, x], argTypes := #[t, tn] }) (hg : gd ops l o.guard = some true) (hd : o.dst = some d) (hn : Nat.blt d n = true)
    (hs : ev l s = some (.slice none 0 0)) (hx : ev l x = some (.int .i64 (m : Int))) (hm : 0 < m) (h63 : m ≤ maxLen) (hb : m * bytes ≤ 281474976710656)
    (k : ∀ A c xs, OW P n w0 F ops K rest ((d, .slice A m c) :: l) (HP.row Et 1 A m c xs :: H)) : OW P n w0 F ops K (o :: rest) l H :=
  OW.step hg hd hn (fun v H' => ∃ A c xs, v = .slice A m c ∧ H' = HP.row Et 1 A m c xs :: H)
    (fun a w ha hw => by
      obtain ⟨inf, hinf, hz0, hz1, hz2⟩ := hI.parts
      have hr := Lib.run_append_nil_zeros (P := P) w t tn o.type Et inf z .i64 .i64 hT htn hinf hz0 m hm (by omega) (by unfold maxLen at h63; omega) (by rw [hz2]; exact hb)
      have hge := grownCap_ge w m 0 Et
      refine ⟨_, w.drew.alloc (.cells (Builtin.zeroCells z.cells m ++ Builtin.zeroCells z.cells (grownCap w m 0 Et - m)) Et), _, by simp [execOp, ho, resolve, invoke, builtin, ha.ev hs, ha.ev hx, hr], ⟨_, _, _, rfl, rfl⟩, (hw.drew).new _ (Chunks.new_rowc (sz := 1) (m := m) (c := grownCap w m 0 Et) ?_ hge ?_)⟩
      · have hzs : z.cells.size = 1 := by rw [hz]; simpa using hzl
        simp [Builtin.zeroCells, hzs]
        omega
      · exact grownCap_le_maxLen w m 0 Et (by simpa using h63))
    (fun v H' ⟨A, c, xs, hv, hH⟩ => by subst hv hH; exact k A c xs)

theorem OW.cut {ops : Array Oper} {rest : List Oper} {d t Et sz bytes i m c h : Nat} {x y : Operand} {z : Value} {A : Option Addr} {xs : List Value} {H' : List HP} (hT : P.underlying t = some (.slice Et)) (hI : In P Et z sz bytes)
    (ho : o.op = .slice t x none (some y) none) (hg : gd ops l o.guard = some true) (hd : o.dst = some d) (hn : Nat.blt d n = true)
    (hx : ev l x = some (.slice A m c)) (hy : ev l y = some (.int .i64 (h : Int))) (hi : sel H i = some (HP.row Et sz A m c xs, H')) (hle : h ≤ m)
    (k : OW P n w0 F ops K rest ((d, .slice A h c) :: l) (HP.row Et sz A h c (xs.take (h * sz)) :: H')) : OW P n w0 F ops K (o :: rest) l H :=
  OW.step hg hd hn (fun v H1 => v = .slice A h c ∧ H1 = HP.row Et sz A h c (xs.take (h * sz)) :: H')
    (fun a w ha hw => by
      obtain ⟨inf, hinf, hz0, hz1, hz2⟩ := hI.parts
      have hel : P.elem t = Et := by simp [Program.elem, hT]
      have hown := hw.row hi
      have hmc : m ≤ c := by
        rcases hown.2 with ⟨hv, hm⟩ | ⟨g, cap, cur, hv, _, _, hnc, _⟩
        · subst hm; omega
        · injection hv with _ _ hc; omega
      have hr := run_slice_h (P := P) w t A m c (by rw [hel]; exact hT) .i64 (h : Int) (by omega) (by omega)
      rw [hel] at hr
      have hsa := run_sliceAt_slice (P := P) w t (.slice A m c) none (some (.int .i64 (h : Int))) none (by rw [hel]; exact hT)
      have hval : sliced A 0 h c sz = .slice A h c := by
        unfold sliced
        congr 1
        cases A <;> simp [Addr.add]
      refine ⟨_, w, _, by simp [execOp, ho, ha.ev hx, ha.ev hy, hsa, hr, sizeOf, typeInfo, hinf, hz1, Result.andThen, hval], ⟨rfl, rfl⟩, ?_⟩
      have h1 := hw.sel hi
      refine { h1 with chunks := ?_ }
      obtain ⟨S, ⟨g1, g2⟩, g3, g4⟩ := h1.chunks
      refine ⟨S, ⟨fun q => by rw [g1 q]; cases A <;> simp [Value.ownBlock], ?_⟩, g3, g4⟩
      refine ⟨by rw [List.length_take, g2.1]; exact Nat.min_eq_left (Nat.mul_le_mul_right _ hle), ?_⟩
      rcases g2.2 with ⟨hv, hm⟩ | ⟨g, cap, cur, hv, hb, hgg, hnc, hcap, hcs, htk⟩
      · subst hm
        have : h = 0 := by omega
        subst this
        exact .inl ⟨by injection hv with e1 _ e3; subst e1 e3; rfl, rfl⟩
      · injection hv with e1 _ e3
        subst e1 e3
        refine .inr ⟨g, c, cur, rfl, hb, hgg, by omega, hcap, hcs, ?_⟩
        rw [← htk, List.take_take, Nat.min_eq_left (Nat.mul_le_mul_right _ hle)])
    (fun v H1 ⟨hv, hH⟩ => by subst hv hH; exact k)

theorem PV.cutnil {t Et bytes sz : Nat} {x y : Operand} {z : Value} (hT : P.underlying t = some (.slice Et)) (hI : In P Et z sz bytes) (ho : o.op = .slice t x none (some y) none) (hx : ev l x = some (.slice none 0 0)) (hy : ev l y = some (.int .i64 ((0 : Nat) : Int))) :
    PV P n w0 F l H o (.slice none 0 0) := fun a w ha _ => by
  obtain ⟨inf, hinf, hz0, hz1, hz2⟩ := hI.parts
  have hel : P.elem t = Et := by simp [Program.elem, hT]
  have hr := run_slice_h (P := P) w t none 0 0 (by rw [hel]; exact hT) .i64 ((0 : Nat) : Int) (by omega) (by omega)
  rw [hel] at hr
  have hsa := run_sliceAt_slice (P := P) w t (.slice none 0 0) none (some (.int .i64 ((0 : Nat) : Int))) none (by rw [hel]; exact hT)
  have hy' := ha.ev hy
  simp only [Int.natCast_zero] at hr hy' hsa
  simp [execOp, ho, ha.ev hx, hy', hsa, hr, sizeOf, typeInfo, hinf, hz1, Result.andThen, sliced]

/-! ### Maps -/
theorem wf_of {p : Int} (h : -9223372036854775808 ≤ p ∧ p ≤ 9223372036854775807) : (Lit.int .i64 p).wf = true := by
  simp [Lit.wf, IntKind.min, IntKind.max, IntKind.signed, IntKind.bits]; omega
theorem wf_wrap (p : Int) : (Lit.int .i64 (IntKind.i64.wrap p)).wf = true := wf_of (by rw [IntKind.wrap_i64]; omega)
def HP.map (P : Program) (k e B m : Nat) (D : List (Lit × DataW Unit)) : HP where
  sem S w := (∀ q, S q ↔ q = B) ∧ w.ownsMap P k (plainElem P e) B m (DataW.map D)
  loc := fun _ _ _ h ⟨h1, es, clock, hb, r⟩ => ⟨h1, es, clock, by rw [h B ((h1 B).2 rfl)]; exact hb, r⟩

theorem OW.makeMap {ops : Array Oper} {rest : List Oper} {d t kt e : Nat} (ho : o.op = .makeMap t none) (hg : gd ops l o.guard = some true) (hd : o.dst = some d) (hn : Nat.blt d n = true)
    (k : ∀ B, OW P n w0 F ops K rest ((d, .map (some B)) :: l) (HP.map P kt e B 0 [] :: H)) : OW P n w0 F ops K (o :: rest) l H :=
  OW.step hg hd hn (fun v H' => ∃ B, v = .map (some B) ∧ H' = HP.map P kt e B 0 [] :: H)
    (fun a w ha hw => ⟨_, w.alloc (.map #[] 0), _, by simp [execOp, ho, run_makeMap], ⟨w.heap.size, rfl, rfl⟩,
      hw.new (.map #[] 0) (Hn := [HP.map P kt e w.heap.size 0 []]) ⟨fun k => k = w.heap.size, ⟨fun _ => Iff.rfl, World.ownsMap_made w P kt _⟩, fun k hk => by subst hk; simp, trivial⟩⟩)
    (fun v H' ⟨B, hv, hH⟩ => by subst hv hH; exact k B)

theorem HA.map {w : World} (h : HA w0 F H w) {i kt e B m : Nat} {D : List (Lit × DataW Unit)} {H' : List HP} (hi : E.sel H i = some (HP.map P kt e B m D, H')) : w.ownsMap P kt (plainElem P e) B m (DataW.map D) := by
  obtain ⟨S, h1, _⟩ := (h.sel hi).chunks
  exact h1.2

theorem OW.lookup {ops : Array Oper} {rest : List Oper} {d t kt e B i m : Nat} {x y : Operand} {p : Int} {D : List (Lit × DataW Unit)} {bytes : Nat} {H' : List HP} (hT : P.underlying t = some (.map kt e)) (hkt : P.underlying kt = some (.int .i64)) (he : P.underlying e = some (.int .i64))
    (hI : In P e (.int .i64 0) 1 bytes) (ho : o.op = .lookup t x y false) (hg : gd ops l o.guard = some true) (hd : o.dst = some d) (hn : Nat.blt d n = true) (hx : ev l x = some (.map (some B))) (hy : ev l y = some (.int .i64 p)) (hp : (Lit.int .i64 p).wf = true)
    (hi : sel H i = some (HP.map P kt e B m D, H')) (k : ∀ c : Int, OW P n w0 F ops K rest ((d, .int .i64 c) :: l) H) : OW P n w0 F ops K (o :: rest) l H :=
  OW.step hg hd hn (fun v H1 => ∃ c : Int, v = .int .i64 c ∧ H1 = H)
    (fun a w ha hw => by
      obtain ⟨c, hrun, _, _⟩ := (hw.map hi).lookup_int (Maps.int_keyed hkt) hT he (hI.zr w) (Maps.keyOf_int_mk hkt hp)
      exact ⟨.int .i64 c, w, H, by simp [execOp, ho, ha.ev hx, ha.ev hy, hrun], ⟨c, rfl, rfl⟩, hw⟩)
    (fun v H1 ⟨c, hv, hH⟩ => by subst hv hH; exact k c)

theorem OW.mapUpdate {ops : Array Oper} {rest : List Oper} {t kt e B i m : Nat} {x y u : Operand} {p c : Int} {D : List (Lit × DataW Unit)} {H' : List HP} (hT : P.underlying t = some (.map kt e)) (hkt : P.underlying kt = some (.int .i64)) (he : P.underlying e = some (.int .i64))
    (ho : o.op = .mapUpdate t x y u) (hg : gd ops l o.guard = some true) (hd : o.dst = none) (hx : ev l x = some (.map (some B))) (hy : ev l y = some (.int .i64 p)) (hu : ev l u = some (.int .i64 c)) (hp : (Lit.int .i64 p).wf = true) (hc : (Lit.int .i64 c).wf = true) (hm : m < maxLen)
    (hi : sel H i = some (HP.map P kt e B m D, H')) (k : OW P n w0 F ops K rest l (HP.map P kt e B (m + 1) (ChangeMaps.putKey (.int .i64 p) (.lit (.int .i64 c)) D) :: H')) : OW P n w0 F ops K (o :: rest) l H :=
  OW.act hg hd (fun a w ha hw => by
    obtain ⟨w', hrun, h1, h2⟩ := (hw.map hi).update (Maps.int_keyed hkt) hT hm (Maps.keyOf_int_mk hkt hp) (plainElem_int he hc)
    refine ⟨w', by simp [execOp, ho, ha.ev hx, ha.ev hy, ha.ev hu, hrun, Result.andThen], ?_⟩
    refine (hw.sel hi).write (Hn := [HP.map P kt e B (m + 1) (ChangeMaps.putKey (.int .i64 p) (.lit (.int .i64 c)) D)]) fun S hS hB => ⟨h2.os, h2.tape, h2.output, h2.size, fun q hq hn => h2.block q hq (fun e => hn ((hS.1 q).2 (by injection e))), S, ⟨hS.1, ?_⟩, fun q hq => ⟨Nat.lt_of_lt_of_le (hB q hq).1 h2.size, fun hh => hh.2 hq⟩, trivial⟩
    rw [← DataW.put_eq]
    exact h1) k

theorem PV.maplen {x : Operand} {t kt e i B m : Nat} {D : List (Lit × DataW Unit)} {H' : List HP} (hT : P.underlying t = some (.map kt e)) (ho : o.op = .call { callee := .builtin .len, args := #[x], argTypes := #[t] }) (hx : ev l x = some (.map (some B)))
    (hi : sel H i = some (HP.map P kt e B m D, H')) : PV P n w0 F l H o (.int .i64 D.length) := fun a w ha hw => by
  obtain ⟨es, clock, hb, _, _, hD⟩ := hw.map hi
  have hk : P.underlying t = some (.map (P.mapKeyOf t) (P.mapElemOf t)) := by simp [Program.mapKeyOf, Program.mapElemOf, hT]
  have hr := run_len_map (P := P) (w := w) t o.type B es clock hk hb
  have hl : D.length = es.size := by
    injection hD with hD
    rw [hD, length_sorted]
    simp
  simp [execOp, ho, resolve, invoke, builtin, ha.ev hx, hr, goInt, hl]

/-! ### Slices of pairs of numbers -/
def pairs : List (Int × Int) → List Value
  | [] => []
  | p :: r => .int .i64 p.1 :: .int .i64 p.2 :: pairs r
@[simp] theorem pairs_length (l : List (Int × Int)) : (pairs l).length = l.length * 2 := by
  induction l with
  | nil => rfl
  | cons p r ih => simp only [pairs, List.length_cons, ih]; omega
theorem pairs_get : ∀ {l : List (Int × Int)} {k : Nat}, k < l.length → (pairs l)[k * 2]? = some (.int .i64 (l.getD k (0, 0)).1) ∧ (pairs l)[k * 2 + 1]? = some (.int .i64 (l.getD k (0, 0)).2) := by
  intro l
  induction l with
  | nil => intro k h; simp at h
  | cons p r ih =>
    intro k h
    cases k with
    | zero => simp [pairs]
    | succ k =>
      have := ih (k := k) (by simpa using h)
      rw [show (k + 1) * 2 = k * 2 + 1 + 1 by omega, show (k * 2 + 1 + 1 + 1 : Nat) = (k * 2 + 1) + 1 + 1 by omega]
      simp only [pairs, List.getElem?_cons_succ]
      simpa using this
theorem PV.load_pair {t : TypeId} {x : Operand} {A : Option Addr} {k : Nat} {ps : List (Int × Int)} (hR : ∀ w, HA w0 F H w → Rd w (Old w) A (pairs ps)) (ht : Is P t 2) (ho : o.op = .load t x) (hx : ev l x = some (eptr A (k * 2))) (hk : k < ps.length) :
    PV P n w0 F l H o (.agg #[.int .i64 (ps.getD k (0, 0)).1, .int .i64 (ps.getD k (0, 0)).2]) :=
  PV.loads_of (vs := [.int .i64 (ps.getD k (0, 0)).1, .int .i64 (ps.getD k (0, 0)).2]) hR (by exact ht) (by simp) ho hx fun i v hv => by
    have := pairs_get hk
    match i, hv with
    | 0, hv => simp only [List.getElem?_cons_zero, Option.some.injEq] at hv; rw [Nat.add_zero, this.1, ← hv]
    | 1, hv => simp only [List.getElem?_cons_succ, List.getElem?_cons_zero, Option.some.injEq] at hv; rw [this.2, ← hv]

/-- what an exclusive or gives: some number. -/
def xorv (p q : Int) : Int := IntKind.i64.wrap ((BitVec.ofInt IntKind.i64.bits p ^^^ BitVec.ofInt IntKind.i64.bits q).toNat : Int)
theorem PV.xor_i64 {t t' : TypeId} {x y : Operand} {p q : Int} (ho : o.op = .binOp .xor t x y t') (hx : ev l x = some (.int .i64 p)) (hy : ev l y = some (.int .i64 q)) : PV P n w0 F l H o (.int .i64 (xorv p q)) :=
  PV.bin ho hx hy eg_int fun w => by
    rw [binOp_xor]; rfl
/-! ### Slices of slices of numbers -/
structure Sl where
  A : Option Addr
  c : Nat
  l : List Int
def Sl.z : Sl := ⟨.none, 0, []⟩
def Sl.v (s : Sl) : Value := .slice s.A s.l.length s.c
def sls (ss : List Sl) : List Value := ss.map Sl.v
@[simp] theorem sls_length (ss : List Sl) : (sls ss).length = ss.length := by simp [sls]
theorem Sl.mem {ss : List Sl} {k : Nat} (h : k < ss.length) : ss.getD k Sl.z ∈ ss := by
  rw [List.getD_eq_getElem?_getD, List.getElem?_eq_getElem h, Option.getD_some]; exact List.getElem_mem h
def flat (ss : List Sl) (k : Nat) : List Int := (ss.take k).flatMap (·.l)
theorem flat_zero (ss : List Sl) : flat ss 0 = [] := by simp [flat]
theorem flat_succ {ss : List Sl} {k : Nat} (h : k < ss.length) : flat ss (k + 1) = flat ss k ++ (ss.getD k Sl.z).l := by
  unfold flat
  rw [List.take_add_one, List.getElem?_eq_getElem h, Option.toList_some, List.flatMap_append]
  simp [List.getD, h]
theorem flat_le (ss : List Sl) (k : Nat) : (flat ss k).length ≤ (flat ss ss.length).length := by
  unfold flat
  rw [List.take_length]
  have := List.take_append_drop k ss
  have h2 : (ss.flatMap (·.l)).length = ((ss.take k).flatMap (·.l)).length + ((ss.drop k).flatMap (·.l)).length := by
    rw [← List.length_append, ← List.flatMap_append, this]
  omega
theorem PV.load_sl {t : TypeId} {x : Operand} {A : Option Addr} {k : Nat} {ss : List Sl} (hR : ∀ w, HA w0 F H w → Rd w (Old w) A (sls ss)) (ht : Na P t) (ho : o.op = .load t x) (hx : ev l x = some (eptr A k)) (hk : k < ss.length) :
    PV P n w0 F l H o (.slice (ss.getD k Sl.z).A (ss.getD k Sl.z).l.length (ss.getD k Sl.z).c) := PV.load_of hR ht ho hx (by simp [sls, hk, List.getD, Sl.v])
theorem PV.loads_cfg {t : TypeId} {x : Operand} {B : Nat} {g : Cfg} (hR : ∀ w, HA w0 F H w → Rd w (Old w) (some ⟨B, 0, .none⟩) g.cells) (ht : Is P t 6) (ho : o.op = .load t x) (hx : ev l x = some (.pointer (some ⟨B, 0, .none⟩))) :
    PV P n w0 F l H o g.v := PV.loads_of (k := 0) hR (by exact ht) (by simp [Cfg.cells]) ho hx (fun i v hv => by simpa using hv)
theorem Tm.z_rd (w : World) (G : Nat → Prop) : Tm.z.rd w G := ⟨Rd.nil, Rd.nil, Rd.nil⟩
theorem Cfg.ts_getD (g : Cfg) (k : Nat) : g.q.ts.getD k Cf.T.z = (g.ts.getD k Tm.z).q := by
  show (g.ts.map (·.q)).getD k Cf.T.z = _
  rw [List.getD_eq_getElem?_getD, List.getD_eq_getElem?_getD, List.getElem?_map]
  cases g.ts[k]? <;> rfl
theorem Cfg.ts_len (g : Cfg) : g.q.ts.length = g.ts.length := by simp [Cfg.q]
end
end E
namespace Cf
theorem i64s_nil : i64s [] := fun n hn => by cases hn
theorem T.z_fit : T.z.fit := ⟨by simp [T.z], by simp [T.z], by simp [T.z], i64s_nil, i64s_nil, i64s_nil, by simp [T.z, i64], by simp [T.z, i64], by simp [T.z, i64], by simp [T.z, i64], by simp [T.z, i64]⟩
end Cf
end Go.Proofs.Yteibcphdbkgcgaa
