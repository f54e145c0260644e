/- Part 2 of the texts behind the laws RouteReaches, RouteSounds, RouteTables, RouteTells, RouteWalks: the logic, plain laws and walks that they need, for any input that these speak of. -/
import Derived.Maps.Own
import Derived.Lib.AppendZeros
import Derived.Test.YtflkbabhbnmajaaK1
/- More laws of single operations: caps, cut slices, functions with captured values, maps that the function has made, slices of pairs. No program in sight. -/
namespace Go.Proofs.Ytflkbabhbnmajaa
namespace E
open Go Go.RowKit
set_option linter.unusedSimpArgs false
set_option linter.unusedVariables false

section
variable {P : Program} {n : Fr} {w0 : World} {F : Nat → Prop} {K : Kt} {l : Env} {H : List HP} {o : Oper}

theorem PV.cap {x : Operand} {t : TypeId} {A : Option Addr} {m c : Nat} (hT : P.underlying t = some (.slice (P.elem t))) (ho : o.op = .call { callee := .builtin .cap, args := #[x], argTypes := #[t] }) (hx : ev l x = some (.slice A m c)) :
    PV P n w0 F l H o (.int .i64 c) := fun a w ha _ => by
  simp [execOp, ho, resolve, invoke, builtin, ha.ev hx, run_cap_slice w t o.type A m c hT, goInt]

theorem PV.makeFunc {f : Fn} {fs cs : List Operand} {us vs : List Value} (ho : o.op = .makeFunc f fs.toArray cs.toArray) (h1 : evs l fs = some us) (h2 : evs l cs = some vs) : PV P n w0 F l H o (.func f us.toArray vs.toArray) := fun a w ha _ => by
  have e1 := ha.evs h1
  have e2 := ha.evs h2
  simp [execOp, ho, Instr.makeFunc, e1, e2]

theorem HA.rdblk {w : World} (h : HA w0 F H w) {i B T : Nat} {cs : List Value} {H' : List HP} (hi : E.sel H i = some (HP.blk B T cs, H')) : Rd w (Old w) (some ⟨B, 0, .none⟩) cs := fun hx => by
  have hb := h.blk hi
  refine ⟨_, rfl, (Array.getElem?_eq_some_iff.1 hb).1, fun j u hu => ?_⟩
  have hadd : (⟨B, 0, .none⟩ : Addr).add j = ⟨B, j, .none⟩ := by unfold Addr.add; split <;> simp_all
  rw [hadd, cell_of_row w B j _ T (0, 0) hb]
  simpa using hu

/-! ### append of a make onto nil; a slice cut -/
theorem Chunks.new_rowc {w : World} {Et sz m c : Nat} {cur : Array Value} (hl : cur.size = c * sz) (hm : m ≤ c) (hc : c ≤ maxLen) :
    Chunks (w.alloc (.cells cur Et)) (fun k => k < w.heap.size) [HP.row Et sz (some ⟨w.heap.size, 0, none⟩) m c (cur.toList.take (m * sz))] :=
  ⟨fun k => k = w.heap.size, ⟨fun k => by simp [Value.ownBlock, eq_comm], by rw [List.length_take, Array.length_toList, hl]; exact Nat.min_eq_left (Nat.mul_le_mul_right _ hm),
    .inr ⟨w.heap.size, c, cur, rfl, Nat.zero_le _, heap_alloc_new w _, hm, hc, hl, rfl⟩⟩, fun k hk => by subst hk; simp, trivial⟩

theorem OW.app_zeros {ops : Array Oper} {rest : List Oper} {d t tn Et bytes : Nat} {s x : Operand} {z : Value} {zs : List Value} (m : Nat) (hT : P.underlying t = some (.slice Et)) (htn : P.underlying tn = some (.int .i64)) (hI : In P Et z 1 bytes) (hz : z.cells = zs.toArray) (hzl : zs.length = 1)
    (ho : o.op = .call { callee := .builtin .append, args := #[s, x], argTypes := #[t, tn] }) (hg : gd ops l o.guard = some true) (hd : o.dst = some d) (hn : Nat.blt d n.sz = true)
    (hs : ev l s = some (.slice none 0 0)) (hx : ev l x = some (.int .i64 (m : Int))) (hm : 0 < m) (h63 : m ≤ maxLen) (hb : m * bytes ≤ 281474976710656)
    (k : ∀ A c xs, OW P n w0 F ops K rest ((d, .slice A m c) :: l) (HP.row Et 1 A m c xs :: H)) : OW P n w0 F ops K (o :: rest) l H :=
  OW.step hg hd hn (fun v H' => ∃ A c xs, v = .slice A m c ∧ H' = HP.row Et 1 A m c xs :: H)
    (fun a w ha hw => by
      obtain ⟨inf, hinf, hz0, hz1, hz2⟩ := hI.parts
      have hr := Lib.run_append_nil_zeros (P := P) w t tn o.type Et inf z .i64 .i64 hT htn hinf hz0 m hm (by omega) (by unfold maxLen at h63; omega) (by rw [hz2]; exact hb)
      have hge := grownCap_ge w m 0 Et
      refine ⟨_, w.drew.alloc (.cells (Builtin.zeroCells z.cells m ++ Builtin.zeroCells z.cells (grownCap w m 0 Et - m)) Et), _, by simp [execOp, ho, resolve, invoke, builtin, ha.ev hs, ha.ev hx, hr], ⟨_, _, _, rfl, rfl⟩, (hw.drew).new _ (Chunks.new_rowc (sz := 1) (m := m) (c := grownCap w m 0 Et) ?_ hge ?_)⟩
      · have hzs : z.cells.size = 1 := by rw [hz]; simpa using hzl
        simp [Builtin.zeroCells, hzs]
        omega
      · exact grownCap_le_maxLen w m 0 Et (by simpa using h63))
    (fun v H' ⟨A, c, xs, hv, hH⟩ => by subst hv hH; exact k A c xs)

theorem OW.cut {ops : Array Oper} {rest : List Oper} {d t Et sz bytes i m c h : Nat} {x y : Operand} {z : Value} {A : Option Addr} {xs : List Value} {H' : List HP} (hT : P.underlying t = some (.slice Et)) (hI : In P Et z sz bytes)
    (ho : o.op = .slice t x none (some y) none) (hg : gd ops l o.guard = some true) (hd : o.dst = some d) (hn : Nat.blt d n.sz = true)
    (hx : ev l x = some (.slice A m c)) (hy : ev l y = some (.int .i64 (h : Int))) (hi : sel H i = some (HP.row Et sz A m c xs, H')) (hle : h ≤ m)
    (k : OW P n w0 F ops K rest ((d, .slice A h c) :: l) (HP.row Et sz A h c (xs.take (h * sz)) :: H')) : OW P n w0 F ops K (o :: rest) l H :=
  OW.step hg hd hn (fun v H1 => v = .slice A h c ∧ H1 = HP.row Et sz A h c (xs.take (h * sz)) :: H')
    (fun a w ha hw => by
      obtain ⟨inf, hinf, hz0, hz1, hz2⟩ := hI.parts
      have hel : P.elem t = Et := by simp [Program.elem, hT]
      have hown := hw.row hi
      have hmc : m ≤ c := by
        rcases hown.2 with ⟨hv, hm⟩ | ⟨g, cap, cur, hv, _, _, hnc, _⟩
        · subst hm; omega
        · injection hv with _ _ hc; omega
      have hr := run_slice_h (P := P) w t A m c (by rw [hel]; exact hT) .i64 (h : Int) (by omega) (by omega)
      rw [hel] at hr
      have hsa := run_sliceAt_slice (P := P) w t (.slice A m c) none (some (.int .i64 (h : Int))) none (by rw [hel]; exact hT)
      have hval : sliced A 0 h c sz = .slice A h c := by
        unfold sliced
        congr 1
        cases A <;> simp [Addr.add]
      refine ⟨_, w, _, by simp [execOp, ho, ha.ev hx, ha.ev hy, hsa, hr, sizeOf, typeInfo, hinf, hz1, Result.andThen, hval], ⟨rfl, rfl⟩, ?_⟩
      have h1 := hw.sel hi
      refine { h1 with chunks := ?_ }
      obtain ⟨S, ⟨g1, g2⟩, g3, g4⟩ := h1.chunks
      refine ⟨S, ⟨fun q => by rw [g1 q]; cases A <;> simp [Value.ownBlock], ?_⟩, g3, g4⟩
      refine ⟨by rw [List.length_take, g2.1]; exact Nat.min_eq_left (Nat.mul_le_mul_right _ hle), ?_⟩
      rcases g2.2 with ⟨hv, hm⟩ | ⟨g, cap, cur, hv, hb, hgg, hnc, hcap, hcs, htk⟩
      · subst hm
        have : h = 0 := by omega
        subst this
        exact .inl ⟨by injection hv with e1 _ e3; subst e1 e3; rfl, rfl⟩
      · injection hv with e1 _ e3
        subst e1 e3
        refine .inr ⟨g, c, cur, rfl, hb, hgg, by omega, hcap, hcs, ?_⟩
        rw [← htk, List.take_take, Nat.min_eq_left (Nat.mul_le_mul_right _ hle)])
    (fun v H1 ⟨hv, hH⟩ => by subst hv hH; exact k)

/-! ### Maps -/
theorem wf_of {p : Int} (h : -9223372036854775808 ≤ p ∧ p ≤ 9223372036854775807) : (Lit.int .i64 p).wf = true := by
  simp [Lit.wf, IntKind.min, IntKind.max, IntKind.signed, IntKind.bits]; omega
theorem wf_wrap (p : Int) : (Lit.int .i64 (IntKind.i64.wrap p)).wf = true := wf_of (by rw [IntKind.wrap_i64]; omega)
def HP.map (P : Program) (k e B m : Nat) (D : List (Lit × DataW Unit)) : HP where
  sem S w := (∀ q, S q ↔ q = B) ∧ w.ownsMap P k (plainElem P e) B m (DataW.map D)
  loc := fun _ _ _ h ⟨h1, es, clock, hb, r⟩ => ⟨h1, es, clock, by rw [h B ((h1 B).2 rfl)]; exact hb, r⟩

theorem OW.makeMap {ops : Array Oper} {rest : List Oper} {d t kt e : Nat} (ho : o.op = .makeMap t none) (hg : gd ops l o.guard = some true) (hd : o.dst = some d) (hn : Nat.blt d n.sz = true)
    (k : ∀ B, OW P n w0 F ops K rest ((d, .map (some B)) :: l) (HP.map P kt e B 0 [] :: H)) : OW P n w0 F ops K (o :: rest) l H :=
  OW.step hg hd hn (fun v H' => ∃ B, v = .map (some B) ∧ H' = HP.map P kt e B 0 [] :: H)
    (fun a w ha hw => ⟨_, w.alloc (.map #[] 0), _, by simp [execOp, ho, run_makeMap], ⟨w.heap.size, rfl, rfl⟩,
      hw.new (.map #[] 0) (Hn := [HP.map P kt e w.heap.size 0 []]) ⟨fun k => k = w.heap.size, ⟨fun _ => Iff.rfl, World.ownsMap_made w P kt _⟩, fun k hk => by subst hk; simp, trivial⟩⟩)
    (fun v H' ⟨B, hv, hH⟩ => by subst hv hH; exact k B)

theorem HA.map {w : World} (h : HA w0 F H w) {i kt e B m : Nat} {D : List (Lit × DataW Unit)} {H' : List HP} (hi : E.sel H i = some (HP.map P kt e B m D, H')) : w.ownsMap P kt (plainElem P e) B m (DataW.map D) := by
  obtain ⟨S, h1, _⟩ := (h.sel hi).chunks
  exact h1.2

theorem OW.lookup {ops : Array Oper} {rest : List Oper} {d t kt e B i m : Nat} {x y : Operand} {p : Int} {D : List (Lit × DataW Unit)} {bytes : Nat} {H' : List HP} (hT : P.underlying t = some (.map kt e)) (hkt : P.underlying kt = some (.int .i64)) (he : P.underlying e = some (.int .i64))
    (hI : In P e (.int .i64 0) 1 bytes) (ho : o.op = .lookup t x y false) (hg : gd ops l o.guard = some true) (hd : o.dst = some d) (hn : Nat.blt d n.sz = true) (hx : ev l x = some (.map (some B))) (hy : ev l y = some (.int .i64 p)) (hp : (Lit.int .i64 p).wf = true)
    (hi : sel H i = some (HP.map P kt e B m D, H')) (k : ∀ c : Int, OW P n w0 F ops K rest ((d, .int .i64 c) :: l) H) : OW P n w0 F ops K (o :: rest) l H :=
  OW.step hg hd hn (fun v H1 => ∃ c : Int, v = .int .i64 c ∧ H1 = H)
    (fun a w ha hw => by
      obtain ⟨c, hrun, _, _⟩ := (hw.map hi).lookup_int (Maps.int_keyed hkt) hT he (hI.zr w) (Maps.keyOf_int_mk hkt hp)
      exact ⟨.int .i64 c, w, H, by simp [execOp, ho, ha.ev hx, ha.ev hy, hrun], ⟨c, rfl, rfl⟩, hw⟩)
    (fun v H1 ⟨c, hv, hH⟩ => by subst hv hH; exact k c)

theorem OW.mapUpdate {ops : Array Oper} {rest : List Oper} {t kt e B i m : Nat} {x y u : Operand} {p c : Int} {D : List (Lit × DataW Unit)} {H' : List HP} (hT : P.underlying t = some (.map kt e)) (hkt : P.underlying kt = some (.int .i64)) (he : P.underlying e = some (.int .i64))
    (ho : o.op = .mapUpdate t x y u) (hg : gd ops l o.guard = some true) (hd : o.dst = none) (hx : ev l x = some (.map (some B))) (hy : ev l y = some (.int .i64 p)) (hu : ev l u = some (.int .i64 c)) (hp : (Lit.int .i64 p).wf = true) (hc : (Lit.int .i64 c).wf = true) (hm : m < maxLen)
    (hi : sel H i = some (HP.map P kt e B m D, H')) (k : OW P n w0 F ops K rest l (HP.map P kt e B (m + 1) (ChangeMaps.putKey (.int .i64 p) (.lit (.int .i64 c)) D) :: H')) : OW P n w0 F ops K (o :: rest) l H :=
  OW.act hg hd (fun a w ha hw => by
    obtain ⟨w', hrun, h1, h2⟩ := (hw.map hi).update (Maps.int_keyed hkt) hT hm (Maps.keyOf_int_mk hkt hp) (plainElem_int he hc)
    refine ⟨w', by simp [execOp, ho, ha.ev hx, ha.ev hy, ha.ev hu, hrun, Result.andThen], ?_⟩
    refine (hw.sel hi).write (Hn := [HP.map P kt e B (m + 1) (ChangeMaps.putKey (.int .i64 p) (.lit (.int .i64 c)) D)]) fun S hS hB => ⟨h2.os, h2.tape, h2.output, h2.size, fun q hq hn => h2.block q hq (fun e => hn ((hS.1 q).2 (by injection e))), S, ⟨hS.1, ?_⟩, fun q hq => ⟨Nat.lt_of_lt_of_le (hB q hq).1 h2.size, fun hh => hh.2 hq⟩, trivial⟩
    rw [← DataW.put_eq]
    exact h1) k

theorem PV.maplen {x : Operand} {t kt e i B m : Nat} {D : List (Lit × DataW Unit)} {H' : List HP} (hT : P.underlying t = some (.map kt e)) (ho : o.op = .call { callee := .builtin .len, args := #[x], argTypes := #[t] }) (hx : ev l x = some (.map (some B)))
    (hi : sel H i = some (HP.map P kt e B m D, H')) : PV P n w0 F l H o (.int .i64 D.length) := fun a w ha hw => by
  obtain ⟨es, clock, hb, _, _, hD⟩ := hw.map hi
  have hk : P.underlying t = some (.map (P.mapKeyOf t) (P.mapElemOf t)) := by simp [Program.mapKeyOf, Program.mapElemOf, hT]
  have hr := run_len_map (P := P) (w := w) t o.type B es clock hk hb
  have hl : D.length = es.size := by
    injection hD with hD
    rw [hD, length_sorted]
    simp
  simp [execOp, ho, resolve, invoke, builtin, ha.ev hx, hr, goInt, hl]

/-! ### Slices of pairs of numbers -/
def pairs : List (Int × Int) → List Value
  | [] => []
  | p :: r => .int .i64 p.1 :: .int .i64 p.2 :: pairs r
@[simp] theorem pairs_length (l : List (Int × Int)) : (pairs l).length = l.length * 2 := by
  induction l with
  | nil => rfl
  | cons p r ih => simp only [pairs, List.length_cons, ih]; omega
theorem pairs_get : ∀ {l : List (Int × Int)} {k : Nat}, k < l.length → (pairs l)[k * 2]? = some (.int .i64 (l.getD k (0, 0)).1) ∧ (pairs l)[k * 2 + 1]? = some (.int .i64 (l.getD k (0, 0)).2) := by
  intro l
  induction l with
  | nil => intro k h; simp at h
  | cons p r ih =>
    intro k h
    cases k with
    | zero => simp [pairs]
    | succ k =>
      have := ih (k := k) (by simpa using h)
      rw [show (k + 1) * 2 = k * 2 + 1 + 1 by omega, show (k * 2 + 1 + 1 + 1 : Nat) = (k * 2 + 1) + 1 + 1 by omega]
      simp only [pairs, List.getElem?_cons_succ]
      simpa using this
theorem PV.load_pair {t : TypeId} {x : Operand} {A : Option Addr} {k : Nat} {ps : List (Int × Int)} (hR : ∀ w, HA w0 F H w → Rd w (Old w) A (pairs ps)) (ht : Is P t 2) (ho : o.op = .load t x) (hx : ev l x = some (eptr A (k * 2))) (hk : k < ps.length) :
    PV P n w0 F l H o (.agg #[.int .i64 (ps.getD k (0, 0)).1, .int .i64 (ps.getD k (0, 0)).2]) :=
  PV.loads_of (vs := [.int .i64 (ps.getD k (0, 0)).1, .int .i64 (ps.getD k (0, 0)).2]) hR (by exact ht) (by simp) ho hx fun i v hv => by
    have := pairs_get hk
    match i, hv with
    | 0, hv => simp only [List.getElem?_cons_zero, Option.some.injEq] at hv; rw [Nat.add_zero, this.1, ← hv]
    | 1, hv => simp only [List.getElem?_cons_succ, List.getElem?_cons_zero, Option.some.injEq] at hv; rw [this.2, ← hv]

/-- what an exclusive or gives: some number. -/
def xorv (p q : Int) : Int := IntKind.i64.wrap ((BitVec.ofInt IntKind.i64.bits p ^^^ BitVec.ofInt IntKind.i64.bits q).toNat : Int)
/-! ### Slices of slices of numbers -/
structure Sl where
  A : Option Addr
  c : Nat
  l : List Int
def Sl.z : Sl := ⟨.none, 0, []⟩
def Sl.v (s : Sl) : Value := .slice s.A s.l.length s.c
def sls (ss : List Sl) : List Value := ss.map Sl.v
@[simp] theorem sls_length (ss : List Sl) : (sls ss).length = ss.length := by simp [sls]
theorem Sl.mem {ss : List Sl} {k : Nat} (h : k < ss.length) : ss.getD k Sl.z ∈ ss := by
  rw [List.getD_eq_getElem?_getD, List.getElem?_eq_getElem h, Option.getD_some]; exact List.getElem_mem h
def flat (ss : List Sl) (k : Nat) : List Int := (ss.take k).flatMap (·.l)
theorem flat_zero (ss : List Sl) : flat ss 0 = [] := by simp [flat]
theorem flat_succ {ss : List Sl} {k : Nat} (h : k < ss.length) : flat ss (k + 1) = flat ss k ++ (ss.getD k Sl.z).l := by
  unfold flat
  rw [List.take_add_one, List.getElem?_eq_getElem h, Option.toList_some, List.flatMap_append]
  simp [List.getD, h]
theorem flat_le (ss : List Sl) (k : Nat) : (flat ss k).length ≤ (flat ss ss.length).length := by
  unfold flat
  rw [List.take_length]
  have := List.take_append_drop k ss
  have h2 : (ss.flatMap (·.l)).length = ((ss.take k).flatMap (·.l)).length + ((ss.drop k).flatMap (·.l)).length := by
    rw [← List.length_append, ← List.flatMap_append, this]
  omega
theorem PV.load_sl {t : TypeId} {x : Operand} {A : Option Addr} {k : Nat} {ss : List Sl} (hR : ∀ w, HA w0 F H w → Rd w (Old w) A (sls ss)) (ht : Na P t) (ho : o.op = .load t x) (hx : ev l x = some (eptr A k)) (hk : k < ss.length) :
    PV P n w0 F l H o (.slice (ss.getD k Sl.z).A (ss.getD k Sl.z).l.length (ss.getD k Sl.z).c) := PV.load_of hR ht ho hx (by simp [sls, hk, List.getD, Sl.v])
theorem PV.loads_cfg {t : TypeId} {x : Operand} {B : Nat} {g : Cfg} (hR : ∀ w, HA w0 F H w → Rd w (Old w) (some ⟨B, 0, .none⟩) g.cells) (ht : Is P t 6) (ho : o.op = .load t x) (hx : ev l x = some (.pointer (some ⟨B, 0, .none⟩))) :
    PV P n w0 F l H o g.v := PV.loads_of (k := 0) hR (by exact ht) (by simp [Cfg.cells]) ho hx (fun i v hv => by simpa using hv)
theorem Tm.z_rd (w : World) (G : Nat → Prop) : Tm.z.rd w G := ⟨Rd.nil, Rd.nil, Rd.nil⟩
theorem Cfg.ts_getD (g : Cfg) (k : Nat) : g.q.ts.getD k Cf.T.z = (g.ts.getD k Tm.z).q := by
  show (g.ts.map (·.q)).getD k Cf.T.z = _
  rw [List.getD_eq_getElem?_getD, List.getD_eq_getElem?_getD, List.getElem?_map]
  cases g.ts[k]? <;> rfl
theorem Cfg.ts_len (g : Cfg) : g.q.ts.length = g.ts.length := by simp [Cfg.q]
end
end E
namespace Cf
theorem i64s_nil : i64s [] := fun n hn => by cases hn
theorem T.z_fit : T.z.fit := ⟨by simp [T.z], by simp [T.z], by simp [T.z], i64s_nil, i64s_nil, i64s_nil, by simp [T.z, i64], by simp [T.z, i64], by simp [T.z, i64], by simp [T.z, i64], by simp [T.z, i64]⟩
end Cf
end Go.Proofs.Ytflkbabhbnmajaa

/- Counting in a map: how many keys it has, plainly; the model of a config's validity. -/
namespace Go.Proofs.Ytflkbabhbnmajaa
set_option linter.unusedVariables false
set_option linter.unusedSimpArgs false
namespace Cf
open Go
/-! ### Keys of a map of numbers -/
theorem perm_ne {p : Int} : ∀ {ks : List Int}, ks.Nodup → p ∈ ks → (p :: ks.filter fun q => decide (q ≠ p)).Perm ks := by
  intro ks
  induction ks with
  | nil => intro _ h; cases h
  | cons a r ih =>
    intro hn hm
    rw [List.nodup_cons] at hn
    by_cases h : a = p
    · subst h
      have e1 : (r.filter fun q => decide (q ≠ a)) = r := List.filter_eq_self.2 (fun q hq => decide_eq_true (fun (e : q = a) => hn.1 (e ▸ hq)))
      rw [List.filter_cons_of_neg (by simp), e1]
    · have hmr : p ∈ r := by
        rcases List.mem_cons.1 hm with e | e
        · exact absurd e.symm h
        · exact e
      rw [List.filter_cons_of_pos (by simpa using h)]
      exact (List.Perm.swap _ _ _).trans ((ih hn.2 hmr).cons a)
theorem insert_perm {H : Type} (x : Lit × DataW H) : ∀ D : List (Lit × DataW H), (DataW.insert x D).Perm (x :: D) := by
  intro D
  induction D with
  | nil => exact List.Perm.refl _
  | cons y r ih =>
    unfold DataW.insert
    split
    · exact List.Perm.refl _
    · exact (ih.cons y).trans (List.Perm.swap _ _ _)

def Dk (l : List Int) (k : Nat) (D : List (Lit × DataW Unit)) : Prop :=
  ∃ ks : List Int, (D.map (·.1)).Perm (ks.map (Lit.int .i64)) ∧ ks.Nodup ∧ (∀ p, p ∈ ks ↔ p ∈ l.take k) ∧ ks.length ≤ k ∧ (ks.length = k ↔ (l.take k).Nodup)
theorem Dk_start (l : List Int) : Dk l 0 [] := ⟨[], List.Perm.refl _, List.nodup_nil, by simp, by simp, by simp⟩
theorem Dk_step {l : List Int} {k : Nat} {D : List (Lit × DataW Unit)} {d : DataW Unit} (h : Dk l k D) (hk : k < l.length) : Dk l (k + 1) (ChangeMaps.putKey (.int .i64 (l.getD k 0)) d D) := by
  obtain ⟨ks, h1, h2, h3, h4, h5⟩ := h
  have ht : l.take (k + 1) = l.take k ++ [l.getD k 0] := by rw [List.take_add_one, List.getElem?_eq_getElem hk]; simp [List.getD, hk]
  generalize l.getD k 0 = p at *
  have hp : ((ChangeMaps.putKey (.int .i64 p) d D).map (·.1)).Perm ((p :: ks.filter fun q => decide (q ≠ p)).map (Lit.int .i64)) := by
    unfold ChangeMaps.putKey
    refine ((insert_perm _ _).map _).trans ?_
    rw [List.map_cons, List.map_cons]
    refine List.Perm.cons _ ?_
    have e1 : (D.filter (ChangeMaps.notKey (.int .i64 p))).map (·.1) = (D.map (·.1)).filter fun q => !q.sameKey (.int .i64 p) := by
      rw [List.filter_map]; rfl
    have e2 : ((ks.map (Lit.int .i64)).filter fun q => !q.sameKey (.int .i64 p)) = (ks.filter fun q => decide (q ≠ p)).map (Lit.int .i64) := by
      rw [List.filter_map]
      congr 1
      apply List.filter_congr
      intro q _
      simp [Lit.sameKey]
    rw [e1, ← e2]
    exact h1.filter _
  have hlen : (l.take k).length = k := by rw [List.length_take]; omega
  by_cases hm : p ∈ ks
  · refine ⟨ks, hp.trans ((perm_ne h2 hm).map _), h2, fun q => ?_, by omega, ?_⟩
    · rw [ht, List.mem_append, List.mem_singleton, ← h3 q]
      constructor
      · exact .inl
      · rintro (h | rfl)
        · exact h
        · exact hm
    · constructor
      · intro e; omega
      · intro hn
        rw [ht, List.nodup_append] at hn
        exact absurd rfl (hn.2.2 p ((h3 p).1 hm) p (by simp))
  · have e : (ks.filter fun q => decide (q ≠ p)) = ks := List.filter_eq_self.2 fun q hq => decide_eq_true fun e => hm (e ▸ hq)
    rw [e] at hp
    refine ⟨p :: ks, hp, List.nodup_cons.2 ⟨hm, h2⟩, fun q => ?_, by simpa using h4, ?_⟩
    · rw [ht, List.mem_append, List.mem_singleton, List.mem_cons, ← h3 q]
      exact or_comm
    · rw [List.length_cons, ht, List.nodup_append]
      constructor
      · intro e
        refine ⟨h5.1 (by omega), by simp, fun a ha b hb => ?_⟩
        simp at hb
        subst hb
        exact fun e => hm ((h3 _).2 (e ▸ ha))
      · intro hn
        rw [h5.2 hn.1]
theorem Dk_end {l : List Int} {D : List (Lit × DataW Unit)} {k : Nat} (h : Dk l k D) (hk : k = l.length) : decide ((D.length : Int) = l.length) = decide l.Nodup := by
  subst hk
  obtain ⟨ks, h1, h2, h3, h4, h5⟩ := h
  have := h1.length_eq
  simp only [List.length_map] at this
  rw [List.take_length] at h5
  refine decide_eq_decide.2 ?_
  rw [this, ← h5]
  omega

/-! ### Positions in lists of numbers -/
def idx (q : Int → Bool) (l : List Int) : Int := match l.findIdx? q with | some i => (i : Int) | none => -1
theorem idx_some {q : Int → Bool} {l : List Int} {k : Nat} (hk : k < l.length) (h1 : ∀ j, j < k → q (l.getD j 0) = false) (h2 : q (l.getD k 0) = true) : idx q l = k := by
  unfold idx
  have : l.findIdx? q = some k := by
    rw [List.findIdx?_eq_some_iff_getElem]
    refine ⟨hk, by simpa [List.getD, hk] using h2, fun j hj => ?_⟩
    have := h1 j hj
    simpa [List.getD, show j < l.length by omega] using this
  rw [this]
theorem idx_none {q : Int → Bool} {l : List Int} (h1 : ∀ j, j < l.length → q (l.getD j 0) = false) : idx q l = -1 := by
  unfold idx
  have : l.findIdx? q = none := by
    rw [List.findIdx?_eq_none_iff]
    intro x hx
    obtain ⟨i, hi, rfl⟩ := List.getElem_of_mem hx
    have := h1 i hi
    simpa [List.getD, hi] using this
  rw [this]
theorem idx_any (q : Int → Bool) (l : List Int) : decide (0 ≤ idx q l) = l.any q := by
  unfold idx
  cases h : l.findIdx? q with
  | none =>
    rw [List.findIdx?_eq_none_iff] at h
    have : l.any q = false := List.any_eq_false.2 fun x hx => by rw [h x hx]; simp
    rw [this]; rfl
  | some i =>
    rw [List.findIdx?_eq_some_iff_getElem] at h
    obtain ⟨hi, hq, _⟩ := h
    have : l.any q = true := List.any_eq_true.2 ⟨_, List.getElem_mem hi, hq⟩
    rw [this]
    exact decide_eq_true (Int.natCast_nonneg i)
theorem idx_mem (x : Int) (l : List Int) : decide (0 ≤ idx (fun y => decide (x = y)) l) = decide (x ∈ l) := by
  rw [idx_any]
  by_cases h : x ∈ l
  · rw [decide_eq_true h]; exact List.any_eq_true.2 ⟨x, h, by simp⟩
  · rw [decide_eq_false h]; exact List.any_eq_false.2 fun y hy => fun hh => h ((of_decide_eq_true hh).symm ▸ hy)

/-! ### Teams -/
def absent (t : T) : Bool := decide (t = T.z)
theorem absent_eq (t : T) : (decide ((t.h.length : Int) + t.p.length + t.d.length = 0) && decide (t.n1 = 0) && decide (t.n2 = 0) && decide (t.n3 = 0) && decide (t.n4 = 0) && decide (t.n5 = 0)) = absent t := by
  unfold absent
  rw [← Bool.decide_and, ← Bool.decide_and, ← Bool.decide_and, ← Bool.decide_and, ← Bool.decide_and]
  refine decide_eq_decide.2 ?_
  rw [T.ext']
  simp only [T.z]
  constructor
  · rintro ⟨⟨⟨⟨⟨h, h1⟩, h2⟩, h3⟩, h4⟩, h5⟩
    exact ⟨List.eq_nil_of_length_eq_zero (by omega), List.eq_nil_of_length_eq_zero (by omega), List.eq_nil_of_length_eq_zero (by omega), h1, h2, h3, h4, h5⟩
  · rintro ⟨e1, e2, e3, h1, h2, h3, h4, h5⟩
    rw [e1, e2, e3]
    exact ⟨⟨⟨⟨⟨by simp, h1⟩, h2⟩, h3⟩, h4⟩, h5⟩
def spots (t : T) : List Int := t.h ++ t.p ++ t.d
def btw (n m : Int) : Bool := decide (1 ≤ n) && decide (n ≤ m)
def lims (t : T) : List (Int × Int) := [(t.h.length, 3), (t.p.length, 3), (t.d.length, 3), (t.n1, 8), (t.n2, 8), (t.n3, 8), (t.n4, 16), (t.n5, 64)]
def numbers (t : T) : Bool := (lims t).all fun x => btw x.1 x.2
def ownAt (l : List UInt8) (t p : Int) : Bool := decide (0 ≤ p) && decide (p < l.length) && Fl.own t (l.getD p.toNat 0)
def validTeam (l : List UInt8) (t : Int) (m : T) : Bool := numbers m && (spots m).all (ownAt l t) && decide (spots m).Nodup
def checkTeam (a b : Int) (l : List UInt8) (t : Int) (m : T) : Int := if Fl.validF a b l then (if Fl.inB t 3 then (if absent m || validTeam l t m then 0 else 70) else 2) else 50

theorem numbers_len {m : T} (h : numbers m = true) : (1 ≤ m.h.length ∧ m.h.length ≤ 3) ∧ (1 ≤ m.p.length ∧ m.p.length ≤ 3) ∧ (1 ≤ m.d.length ∧ m.d.length ≤ 3) := by
  unfold numbers lims btw at h
  simp only [List.all_cons, Bool.and_eq_true, decide_eq_true_eq] at h
  omega
theorem spots_len (m : T) : (spots m).length = m.h.length + m.p.length + m.d.length := by unfold spots; simp only [List.length_append]
theorem spots_i64 {m : T} (h : m.fit) : i64s (spots m) := fun n hn => by
  unfold spots at hn
  rcases List.mem_append.1 hn with hn | hn
  · rcases List.mem_append.1 hn with hn | hn
    · exact h.hs n hn
    · exact h.ps n hn
  · exact h.ds n hn
theorem priv_mem {a b : Int} {l : List UInt8} {t : Int} (hv : Fl.validF a b l = true) (ht : Fl.inB t 3 = true) (p : Int) : decide (p ∈ (Fl.priv a b l t).1) = ownAt l t p := by
  have h3 := Fl.inB_iff.1 ht
  unfold Fl.priv ownAt
  rw [if_pos hv, if_pos ht]
  by_cases hp : 0 ≤ p ∧ p < l.length
  · rw [decide_eq_true hp.1, decide_eq_true hp.2, Fl.own_iff h3 (Fl.okc_at hv (by omega))]
    simp only [Bool.true_and]
    refine decide_eq_decide.2 ?_
    rw [Fl.places_mem]
    constructor
    · rintro ⟨q, h1, h2, rfl⟩
      simpa using h2
    · intro h
      exact ⟨p.toNat, by omega, by simpa using h, by omega⟩
  · have : (decide (0 ≤ p) && decide (p < l.length)) = false := by
      rw [← Bool.decide_and]; exact decide_eq_false hp
    rw [this, Bool.false_and]
    refine decide_eq_false fun h => hp ?_
    obtain ⟨q, h1, _, rfl⟩ := (Fl.places_mem (q := fun c => decide (Fl.ownerC c = t)) (l := l) (k := l.length)).1 h
    omega
theorem foreign_any {a b : Int} {l : List UInt8} {t : Int} (hv : Fl.validF a b l = true) (ht : Fl.inB t 3 = true) (s : List Int) : (s.any fun p => !decide (p ∈ (Fl.priv a b l t).1)) = !s.all (ownAt l t) := by
  rw [List.not_all_eq_any_not]
  congr 1
  funext p
  rw [priv_mem hv ht p]
theorem checkTeam_bad {a b : Int} {l : List UInt8} {t : Int} {m : T} (h : ¬ (Fl.priv a b l t).2 = 0) : checkTeam a b l t m = (Fl.priv a b l t).2 := by
  unfold checkTeam Fl.priv at *
  split
  · rename_i hv
    rw [if_pos hv] at h
    split
    · rename_i ht; rw [if_pos ht] at h; exact absurd rfl h
    · rfl
  · rfl
theorem priv_ok {a b : Int} {l : List UInt8} {t : Int} (h : (Fl.priv a b l t).2 = 0) : Fl.validF a b l = true ∧ Fl.inB t 3 = true := by
  unfold Fl.priv at h
  split at h
  · rename_i hv
    split at h
    · rename_i ht; exact ⟨hv, ht⟩
    · cases h
  · cases h
theorem checkTeam_if {a b : Int} {l : List UInt8} {t : Int} {m : T} (hv : Fl.validF a b l = true) (ht : Fl.inB t 3 = true) : checkTeam a b l t m = if absent m || validTeam l t m then 0 else 70 := by
  unfold checkTeam; rw [if_pos hv, if_pos ht]

section
variable {a b : Int} {l : List UInt8} {t : Int} {m : T}
theorem ct_own (hv : Fl.validF a b l = true) (ht : Fl.inB t 3 = true) (ha : absent m = false) (h : ((spots m).any fun p => !decide (p ∈ (Fl.priv a b l t).1)) = true) : checkTeam a b l t m = 70 := by
  rw [foreign_any hv ht, Bool.not_eq_true'] at h
  rw [checkTeam_if hv ht, ha, validTeam, h]
  simp
theorem ct_dup (hv : Fl.validF a b l = true) (ht : Fl.inB t 3 = true) (ha : absent m = false) (h : ¬ (spots m).Nodup) : checkTeam a b l t m = 70 := by
  rw [checkTeam_if hv ht, ha, validTeam, decide_eq_false h]
  simp
theorem ct_yes (hv : Fl.validF a b l = true) (ht : Fl.inB t 3 = true) (hn : numbers m = true) (h : ((spots m).any fun p => !decide (p ∈ (Fl.priv a b l t).1)) = false) (hd : (spots m).Nodup) : checkTeam a b l t m = 0 := by
  rw [foreign_any hv ht, Bool.not_eq_false'] at h
  rw [checkTeam_if hv ht, validTeam, hn, h, decide_eq_true hd]
  simp
end

/-! ### Configs -/
def present (ts : List T) (t : Int) : Bool := decide (0 ≤ t) && decide (t < ts.length) && !absent (ts.getD t.toNat T.z)
def belongs (ts : List T) (v : UInt8) : Bool := decide ((v.toNat : Int) = 0) || decide ((v.toNat : Int) = 255) || present ts ((v.toNat : Int) - 1)
def tenants (ts : List T) (k : Nat) : List Int := ((List.range k).filter fun (t : Nat) => present ts (t : Int)).map fun (t : Nat) => (t : Int)
theorem tenants_yes {ts : List T} {k : Nat} (h : present ts (k : Int) = true) : tenants ts (k + 1) = tenants ts k ++ [(k : Int)] := by
  unfold tenants; rw [List.range_succ, List.filter_append, List.map_append]; simp only [List.filter_cons, h, if_true, List.filter_nil, List.map_cons, List.map_nil]
theorem tenants_no {ts : List T} {k : Nat} (h : present ts (k : Int) = false) : tenants ts (k + 1) = tenants ts k := by
  unfold tenants; rw [List.range_succ, List.filter_append, List.map_append]; simp only [List.filter_cons, h, Bool.false_eq_true, if_false, List.filter_nil, List.map_nil, List.append_nil]
theorem tenants_len (ts : List T) (k : Nat) : (tenants ts k).length ≤ k := by
  unfold tenants; rw [List.length_map]; have := List.length_filter_le (fun p => present ts ((p : Nat) : Int)) (List.range k); simpa using this
def teamsAt (g : C) (k : Nat) : Prop := ∀ j, j < k → absent (g.ts.getD j T.z) = true ∨ validTeam g.l j (g.ts.getD j T.z) = true
def teamOk (g : C) (j : Nat) : Bool := absent (g.ts.getD j T.z) || validTeam g.l (j : Int) (g.ts.getD j T.z)
def teamsOk (g : C) : Bool := decide (1 ≤ g.ts.length) && decide (g.ts.length ≤ 3) && (List.range g.ts.length).all (teamOk g) && g.l.all (belongs g.ts) && g.s.all (belongs g.ts) && (List.range g.ts.length).any fun j => !absent (g.ts.getD j T.z)
def check (g : C) : Int := if Fl.validF g.a g.b g.l then (if Fl.validS g.s then (if teamsOk g then (if g.st ≤ 4611686018427387904 then 0 else 2) else 70) else 60) else 50
theorem present_at {ts : List T} {k : Nat} (h : k < ts.length) : present ts (k : Int) = !absent (ts.getD k T.z) := by
  unfold present
  rw [decide_eq_true (by omega), decide_eq_true (by omega), Int.toNat_natCast, Bool.true_and, Bool.true_and]
theorem any_tenants (ts : List T) : ((List.range ts.length).any fun j => !absent (ts.getD j T.z)) = !decide (((tenants ts ts.length).length : Int) = 0) := by
  have e : ((List.range ts.length).any fun j => !absent (ts.getD j T.z)) = (List.range ts.length).any fun j => present ts ((j : Nat) : Int) := by
    rw [Bool.eq_iff_iff, List.any_eq_true, List.any_eq_true]
    constructor
    · rintro ⟨j, hj, h⟩; exact ⟨j, hj, by rw [present_at (List.mem_range.1 hj)]; exact h⟩
    · rintro ⟨j, hj, h⟩; exact ⟨j, hj, by rw [present_at (List.mem_range.1 hj)] at h; exact h⟩
  rw [e]
  unfold tenants
  rw [List.length_map]
  by_cases h : (List.range ts.length).any (fun j => present ts ((j : Nat) : Int)) = true
  · rw [h]
    obtain ⟨j, hj, hp⟩ := List.any_eq_true.1 h
    have : j ∈ (List.range ts.length).filter fun (t : Nat) => present ts (t : Int) := List.mem_filter.2 ⟨hj, hp⟩
    have := List.length_pos_of_mem this
    symm
    rw [Bool.not_eq_true', decide_eq_false_iff_not]
    omega
  · have h' : (List.range ts.length).any (fun j => present ts ((j : Nat) : Int)) = false := by simpa using h
    rw [h']
    have : ((List.range ts.length).filter fun (t : Nat) => present ts (t : Int)) = [] := List.filter_eq_nil_iff.2 fun j hj => by
      have := List.any_eq_false.1 h' j hj
      exact this
    rw [this]; rfl

theorem _root_.Go.Proofs.Ytflkbabhbnmajaa.E.Cfg.present_eq (g : E.Cfg) (t : Int) : present g.q.ts t = (decide (0 ≤ t) && decide (t < g.ts.length) && !absent (g.ts.getD t.toNat E.Tm.z).q) := by
  unfold present
  rw [E.Cfg.ts_getD, E.Cfg.ts_len]
theorem all_bad {α : Type} {q : α → Bool} {l : List α} {z : α} {k : Nat} (hk : k < l.length) (h : q (l.getD k z) = false) : l.all q = false := by
  refine List.all_eq_false.2 ⟨l.getD k z, ?_, by rw [h]; simp⟩
  rw [List.getD_eq_getElem?_getD, List.getElem?_eq_getElem hk, Option.getD_some]; exact List.getElem_mem hk
theorem all_good {α : Type} {q : α → Bool} {l : List α} {z : α} (h : ∀ j, j < l.length → q (l.getD j z) = true) : l.all q = true := by
  refine List.all_eq_true.2 fun x hx => ?_
  obtain ⟨i, hi, rfl⟩ := List.getElem_of_mem hx
  have := h i hi
  rwa [List.getD_eq_getElem?_getD, List.getElem?_eq_getElem hi, Option.getD_some] at this
theorem next_all {p : Nat → Prop} {k : Nat} (h : ∀ j, j < k → p j) (e : p k) : ∀ j, j < k + 1 → p j := fun j hj => by
  rcases Nat.lt_succ_iff_lt_or_eq.1 hj with h' | rfl
  · exact h j h'
  · exact e
theorem nodup_take {s : List Int} {k : Nat} (h : (s.take k).Nodup) (hk : k < s.length) (hn : ∀ j, j < k → ¬ s.getD j 0 = s.getD k 0) : (s.take (k + 1)).Nodup := by
  rw [List.take_add_one, List.getElem?_eq_getElem hk]
  rw [List.nodup_append]
  refine ⟨h, by simp, fun a ha b hb => ?_⟩
  simp at hb
  subst hb
  intro e
  obtain ⟨i, hi, rfl⟩ := List.getElem_of_mem ha
  rw [List.length_take] at hi
  refine hn i (by omega) ?_
  rw [List.getElem_take] at e
  simp [List.getD, hk, show i < s.length by omega, e]
theorem nodup_bad {s : List Int} {i k : Nat} (hi : i < k) (hk : k < s.length) (e : s.getD i 0 = s.getD k 0) : ¬ s.Nodup := fun h => by
  have := List.pairwise_iff_getElem.1 h i k (by omega) hk hi
  apply this
  simpa [List.getD, hk, show i < s.length by omega] using e
theorem ownAt_i {l : List UInt8} {t p : Int} (h1 : ¬ p < 0) (h2 : ¬ (l.length : Int) ≤ p) (h3 : Fl.own t (l.getD p.toNat 0) = true) : ownAt l t p = true := by
  unfold ownAt; rw [decide_eq_true (by omega), decide_eq_true (by omega), h3]; rfl
theorem ownAt_lo {l : List UInt8} {t p : Int} (h1 : p < 0) : ownAt l t p = false := by
  unfold ownAt; rw [decide_eq_false (by omega)]; rfl
theorem ownAt_hi {l : List UInt8} {t p : Int} (h1 : (l.length : Int) ≤ p) : ownAt l t p = false := by
  unfold ownAt; rw [decide_eq_false (show ¬ p < (l.length : Int) by omega), Bool.and_false]; rfl
theorem ownAt_no {l : List UInt8} {t p : Int} (h3 : Fl.own t (l.getD p.toNat 0) = false) : ownAt l t p = false := by
  unfold ownAt; rw [h3, Bool.and_false]

/-! ### The order of a config's errors -/
theorem check_f {g : C} (h : ¬ Fl.checkF g.a g.b g.l = 0) : check g = Fl.checkF g.a g.b g.l := by
  unfold check Fl.checkF at *; split <;> simp_all
theorem check_s {g : C} (hv : Fl.validF g.a g.b g.l = true) (h : ¬ Fl.checkS g.s = 0) : check g = Fl.checkS g.s := by
  unfold check Fl.checkS at *; rw [if_pos hv]; split <;> simp_all
theorem check_t {g : C} (hv : Fl.validF g.a g.b g.l = true) (hs : Fl.validS g.s = true) (h : teamsOk g = false) : check g = 70 := by
  unfold check; rw [if_pos hv, if_pos hs, if_neg (by rw [h]; simp)]
theorem check_st {g : C} (hv : Fl.validF g.a g.b g.l = true) (hs : Fl.validS g.s = true) (h : teamsOk g = true) (h2 : 4611686018427387904 < g.st) : check g = 2 := by
  unfold check; rw [if_pos hv, if_pos hs, if_pos h, if_neg (by omega)]
theorem check_ok {g : C} (hv : Fl.validF g.a g.b g.l = true) (hs : Fl.validS g.s = true) (h : teamsOk g = true) (h2 : g.st ≤ 4611686018427387904) : check g = 0 := by
  unfold check; rw [if_pos hv, if_pos hs, if_pos h, if_pos h2]
theorem validS_of {s : List UInt8} (h : Fl.checkS s = 0) : Fl.validS s = true := by
  unfold Fl.checkS at h; split at h
  · assumption
  · cases h
theorem teams_many {g : C} (h : 3 < (g.ts.length : Int)) : teamsOk g = false := by
  unfold teamsOk; rw [decide_eq_false (show ¬ g.ts.length ≤ 3 by omega)]; simp
theorem teams_few {g : C} (h : (g.ts.length : Int) < 1) : teamsOk g = false := by
  unfold teamsOk; rw [decide_eq_false (show ¬ 1 ≤ g.ts.length by omega)]; simp
theorem teams_none {g : C} (h : ((tenants g.ts g.ts.length).length : Int) = 0) : teamsOk g = false := by
  unfold teamsOk; rw [any_tenants, decide_eq_true h]; simp
theorem range_all {p : Nat → Bool} {n : Nat} (h : ∀ j, j < n → p j = true) : (List.range n).all p = true := List.all_eq_true.2 fun j hj => h j (List.mem_range.1 hj)
theorem teams_at {g : C} {k : Nat} (hk : k < g.ts.length) (h : teamOk g k = false) : teamsOk g = false := by
  unfold teamsOk
  have : (List.range g.ts.length).all (teamOk g) = false := List.all_eq_false.2 ⟨k, List.mem_range.2 hk, by rw [h]; simp⟩
  rw [this]; simp
theorem teams_cells {g : C} (h : g.l.all (belongs g.ts) = false) : teamsOk g = false := by unfold teamsOk; rw [h]; simp
theorem teams_slices {g : C} (h : g.s.all (belongs g.ts) = false) : teamsOk g = false := by unfold teamsOk; rw [h]; simp
theorem teams_good {g : C} {sm : Bool} (h1 : ¬ (g.ts.length : Int) < 1) (h2 : ¬ 3 < (g.ts.length : Int)) (h3 : ∀ j, j < g.ts.length → teamOk g j = true) (h4 : g.l.all (belongs g.ts) = true) (h5 : g.s.all (belongs g.ts) = true)
    (h6 : sm = (List.range g.ts.length).any fun j => !absent (g.ts.getD j T.z)) : teamsOk g = sm := by
  unfold teamsOk
  rw [decide_eq_true (by omega), decide_eq_true (by omega), range_all h3, h4, h5, ← h6]; rfl
theorem any_succ {p : Nat → Bool} {k : Nat} : (List.range (k + 1)).any p = ((List.range k).any p || p k) := by
  rw [List.range_succ, List.any_append]; simp
theorem teamOk_of {g : C} {k : Nat} (hv : Fl.validF g.a g.b g.l = true) (hk : k < 3) (h : checkTeam g.a g.b g.l (k : Int) (g.ts.getD k T.z) = 0) : teamOk g k = true := by
  rw [checkTeam_if hv (Fl.inB_iff.2 (by omega))] at h
  unfold teamOk
  by_cases hh : (absent (g.ts.getD k T.z) || validTeam g.l (k : Int) (g.ts.getD k T.z)) = true
  · exact hh
  · rw [if_neg hh] at h; cases h
theorem teamOk_not {g : C} {k : Nat} (hv : Fl.validF g.a g.b g.l = true) (hk : k < 3) (h : ¬ checkTeam g.a g.b g.l (k : Int) (g.ts.getD k T.z) = 0) : teamOk g k = false ∧ checkTeam g.a g.b g.l (k : Int) (g.ts.getD k T.z) = 70 := by
  rw [checkTeam_if hv (Fl.inB_iff.2 (by omega))] at *
  unfold teamOk
  by_cases hh : (absent (g.ts.getD k T.z) || validTeam g.l (k : Int) (g.ts.getD k T.z)) = true
  · rw [if_pos hh] at h; exact absurd rfl h
  · rw [if_neg hh]; exact ⟨by simpa using hh, rfl⟩
theorem any_strange (ts : List T) (l : List UInt8) : (l.any fun x => !belongs ts x) = !l.all (belongs ts) := by rw [List.not_all_eq_any_not]
theorem any_bad {ts : List T} {l : List UInt8} (h : (l.any fun x => !belongs ts x) = true) : l.all (belongs ts) = false := by
  rw [any_strange, Bool.not_eq_true'] at h; exact h
theorem any_good {ts : List T} {l : List UInt8} (h : (l.any fun x => !belongs ts x) = false) : l.all (belongs ts) = true := by
  rw [any_strange, Bool.not_eq_false'] at h; exact h
theorem some_one {g : C} (h : ¬ ((tenants g.ts g.ts.length).length : Int) = 0) : true = (List.range g.ts.length).any fun j => !absent (g.ts.getD j T.z) := by
  rw [any_tenants, decide_eq_false h]; rfl
theorem some_len {g : C} (h : ¬ ((tenants g.ts g.ts.length).length : Int) = 0) : ¬ (g.ts.length : Int) < 1 := fun e => h (by
  have := tenants_len g.ts g.ts.length
  omega)
def presence (g : C) (t : Int) : Bool × Int := if check g = 0 then (if t < 0 ∨ (g.ts.length : Int) ≤ t then (false, 2) else (present g.ts t, 0)) else (false, check g)
def tenantsR (g : C) : List Int × Int := if check g = 0 then (tenants g.ts g.ts.length, 0) else ([], check g)
end Cf
end Go.Proofs.Ytflkbabhbnmajaa

/- Walks (printed by gen.py). -/
namespace Go.Proofs.Ytflkbabhbnmajaa
open Go Go.RowKit
set_option linter.unusedSimpArgs false
set_option linter.unusedVariables false

set_option maxRecDepth 100000 in
theorem in_ok (n m : Int) (w0 : World) :
    Calls Try.prog 115 #[.int .i64 n, .int .i64 m] w0 (E.Post w0 (E.Old w0) fun v Hn => v = .bool (Fl.inB n m) ∧ Hn = []) := by
  refine E.calls_of (vs := [.int .i64 n, .int .i64 m]) (H := []) Try.func115 Try.ntmps115 rfl rfl (E.HA.start w0) ?_
  refine E.CW.seq ?_
  refine E.CW.region ?_
  refine E.OW.pure rfl rfl rfl (E.PV.assign rfl rfl) ?_
  refine E.OW.nil ?_
  refine E.then_n ?_
  refine E.CW.seq ?_
  refine E.CW.region ?_
  refine E.OW.pure rfl rfl rfl (E.PV.move rfl rfl) ?_
  refine E.OW.pure rfl rfl rfl (E.PV.geq rfl rfl rfl) ?_
  refine E.OW.pure rfl rfl rfl (E.PV.move rfl rfl) ?_
  all_goals (refine E.OW.split 7 rfl (fun hc => ?_) (fun hc => ?_) <;> (try simp only [E.b0, E.b1, E.b2, E.b3, E.b4, E.b5, E.b6, E.b7, E.b8, E.b9, E.b10, E.b11, E.b12, E.b13, E.b14, E.b15, E.b16, E.b17, E.b18, E.b19, E.b20, reduceCtorEq] at hc) <;> (try (exfalso; first | assumption | contradiction | omega)))
  all_goals (first | (refine E.OW.off rfl rfl rfl ?_) | (refine E.OW.pure rfl rfl rfl (E.PV.move rfl rfl) ?_))
  all_goals (first | (refine E.OW.off rfl rfl rfl ?_) | (refine E.OW.pure rfl rfl rfl (E.PV.move rfl rfl) ?_))
  all_goals (first | (refine E.OW.off rfl rfl rfl ?_) | (refine E.OW.pure rfl rfl rfl (E.PV.lss rfl rfl rfl) ?_))
  all_goals (first | (refine E.OW.pure rfl rfl rfl (E.PV.pick_t rfl rfl rfl) ?_) | (refine E.OW.pure rfl rfl rfl (E.PV.pick_f rfl rfl rfl) ?_))
  all_goals (refine E.OW.pure rfl rfl rfl (E.PV.assign rfl rfl) ?_)
  all_goals (
    refine E.OW.nil ?_
    refine E.then_n ?_
    refine E.CW.ret ?_
    refine E.KR.one [] Try.results115 rfl rfl ?_
    exact ⟨by simp [Fl.inB, *] <;> omega, rfl⟩)

set_option maxRecDepth 100000 in
theorem valid_ok (a b : Int) (w0 : World) :
    Calls Try.prog 112 #[.agg #[.int .i64 a, .int .i64 b]] w0 (E.Post w0 (E.Old w0) fun v Hn => v = .bool (Fl.valid a b) ∧ Hn = []) := by
  refine E.calls_of (vs := [.agg #[.int .i64 a, .int .i64 b]]) (H := []) Try.func112 Try.ntmps112 rfl rfl (E.HA.start w0) ?_
  refine E.CW.seq ?_
  refine E.CW.region ?_
  refine E.OW.box rfl rfl rfl rfl rfl rfl (fun B1 => ?_)
  refine E.OW.pure rfl rfl rfl (E.PV.assign rfl rfl) ?_
  refine E.OW.nil ?_
  refine E.then_n ?_
  refine E.CW.seq ?_
  refine E.CW.region ?_
  refine E.OW.pure rfl rfl rfl (E.PV.fieldAddr fa114_0 rfl rfl) ?_
  refine E.OW.pure rfl rfl rfl (E.PV.load (i := 0) na3 rfl rfl rfl rfl) ?_
  refine E.OW.pure rfl rfl rfl (E.PV.geq rfl rfl rfl) ?_
  refine E.OW.pure rfl rfl rfl (E.PV.move rfl rfl) ?_
  all_goals (refine E.OW.split 6 rfl (fun hc => ?_) (fun hc => ?_) <;> (try simp only [E.b0, E.b1, E.b2, E.b3, E.b4, E.b5, E.b6, E.b7, E.b8, E.b9, E.b10, E.b11, E.b12, E.b13, E.b14, E.b15, E.b16, E.b17, E.b18, E.b19, E.b20, reduceCtorEq] at hc) <;> (try (exfalso; first | assumption | contradiction | omega)))
  all_goals (first | (refine E.OW.off rfl rfl rfl ?_) | (refine E.OW.pure rfl rfl rfl (E.PV.fieldAddr fa114_0 rfl rfl) ?_))
  all_goals (first | (refine E.OW.off rfl rfl rfl ?_) | (refine E.OW.pure rfl rfl rfl (E.PV.load (i := 0) na3 rfl rfl rfl rfl) ?_))
  all_goals (first | (refine E.OW.off rfl rfl rfl ?_) | (refine E.OW.pure rfl rfl rfl (E.PV.leq rfl rfl rfl) ?_))
  all_goals (first | (refine E.OW.pure rfl rfl rfl (E.PV.pick_t rfl rfl rfl) ?_) | (refine E.OW.pure rfl rfl rfl (E.PV.pick_f rfl rfl rfl) ?_))
  all_goals (refine E.OW.pure rfl rfl rfl (E.PV.move rfl rfl) ?_)
  all_goals (first | (refine E.OW.put 11 (.bool false) (v := .bool false) rfl rfl ?_) | (refine E.OW.split 11 rfl (fun hc => ?_) (fun hc => ?_) <;> (try simp only [E.b0, E.b1, E.b2, E.b3, E.b4, E.b5, E.b6, E.b7, E.b8, E.b9, E.b10, E.b11, E.b12, E.b13, E.b14, E.b15, E.b16, E.b17, E.b18, E.b19, E.b20, reduceCtorEq] at hc) <;> (try (exfalso; first | assumption | contradiction | omega))))
  all_goals (first | (refine E.OW.off rfl rfl rfl ?_) | (refine E.OW.pure rfl rfl rfl (E.PV.fieldAddr fa114_1 rfl rfl) ?_))
  all_goals (first | (refine E.OW.off rfl rfl rfl ?_) | (refine E.OW.pure rfl rfl rfl (E.PV.load (i := 0) na3 rfl rfl rfl rfl) ?_))
  all_goals (first | (refine E.OW.off rfl rfl rfl ?_) | (refine E.OW.pure rfl rfl rfl (E.PV.geq rfl rfl rfl) ?_))
  all_goals (first | (refine E.OW.pure rfl rfl rfl (E.PV.pick_t rfl rfl rfl) ?_) | (refine E.OW.pure rfl rfl rfl (E.PV.pick_f rfl rfl rfl) ?_))
  all_goals (refine E.OW.pure rfl rfl rfl (E.PV.move rfl rfl) ?_)
  all_goals (first | (refine E.OW.put 16 (.bool false) (v := .bool false) rfl rfl ?_) | (refine E.OW.split 16 rfl (fun hc => ?_) (fun hc => ?_) <;> (try simp only [E.b0, E.b1, E.b2, E.b3, E.b4, E.b5, E.b6, E.b7, E.b8, E.b9, E.b10, E.b11, E.b12, E.b13, E.b14, E.b15, E.b16, E.b17, E.b18, E.b19, E.b20, reduceCtorEq] at hc) <;> (try (exfalso; first | assumption | contradiction | omega))))
  all_goals (first | (refine E.OW.off rfl rfl rfl ?_) | (refine E.OW.pure rfl rfl rfl (E.PV.fieldAddr fa114_1 rfl rfl) ?_))
  all_goals (first | (refine E.OW.off rfl rfl rfl ?_) | (refine E.OW.pure rfl rfl rfl (E.PV.load (i := 0) na3 rfl rfl rfl rfl) ?_))
  all_goals (first | (refine E.OW.off rfl rfl rfl ?_) | (refine E.OW.pure rfl rfl rfl (E.PV.leq rfl rfl rfl) ?_))
  all_goals (first | (refine E.OW.pure rfl rfl rfl (E.PV.pick_t rfl rfl rfl) ?_) | (refine E.OW.pure rfl rfl rfl (E.PV.pick_f rfl rfl rfl) ?_))
  all_goals (refine E.OW.pure rfl rfl rfl (E.PV.assign rfl rfl) ?_)
  all_goals (
    refine E.OW.nil ?_
    refine E.then_n ?_
    refine E.CW.ret ?_
    refine E.KR.one [] Try.results112 rfl rfl ?_
    exact ⟨by simp [Fl.valid, *] <;> omega, rfl⟩)

set_option maxRecDepth 100000 in
theorem size_ok (a b : Int) (hv : 2 ≤ a ∧ a ≤ 8 ∧ 2 ≤ b ∧ b ≤ 8) (w0 : World) :
    Calls Try.prog 113 #[.agg #[.int .i64 a, .int .i64 b]] w0 (E.Post w0 (E.Old w0) fun v Hn => v = .int .i64 (a * b) ∧ Hn = []) := by
  refine E.calls_of (vs := [.agg #[.int .i64 a, .int .i64 b]]) (H := []) Try.func113 Try.ntmps113 rfl rfl (E.HA.start w0) ?_
  refine E.CW.seq ?_
  refine E.CW.region ?_
  refine E.OW.box rfl rfl rfl rfl rfl rfl (fun B1 => ?_)
  refine E.OW.pure rfl rfl rfl (E.PV.assign rfl rfl) ?_
  refine E.OW.nil ?_
  refine E.then_n ?_
  refine E.CW.seq ?_
  refine E.CW.region ?_
  refine E.OW.pure rfl rfl rfl (E.PV.fieldAddr fa114_0 rfl rfl) ?_
  refine E.OW.pure rfl rfl rfl (E.PV.load (i := 0) na3 rfl rfl rfl rfl) ?_
  refine E.OW.pure rfl rfl rfl (E.PV.fieldAddr fa114_1 rfl rfl) ?_
  refine E.OW.pure rfl rfl rfl (E.PV.load (i := 0) na3 rfl rfl rfl rfl) ?_
  refine E.OW.pure rfl rfl rfl (E.PV.mul_i64 rfl rfl rfl ?_) ?_; (focus ((first | omega | (have := Fl.mulb (a := a) (b := b) (by omega) (by omega); omega))))
  refine E.OW.pure rfl rfl rfl (E.PV.assign rfl rfl) ?_
  refine E.OW.nil ?_
  refine E.then_n ?_
  refine E.CW.ret ?_
  refine E.KR.one [] Try.results113 rfl rfl ?_
  exact ⟨rfl, rfl⟩

set_option maxRecDepth 100000 in
theorem has_ok (a b p : Int) (w0 : World) :
    Calls Try.prog 85 #[.agg #[.int .i64 a, .int .i64 b], .int .i64 p] w0 (E.Post w0 (E.Old w0) fun v Hn => v = .bool (Fl.has a b p) ∧ Hn = []) := by
  refine E.calls_of (vs := [.agg #[.int .i64 a, .int .i64 b], .int .i64 p]) (H := []) Try.func85 Try.ntmps85 rfl rfl (E.HA.start w0) ?_
  refine E.CW.seq ?_
  refine E.CW.region ?_
  refine E.OW.box rfl rfl rfl rfl rfl rfl (fun B1 => ?_)
  refine E.OW.pure rfl rfl rfl (E.PV.assign rfl rfl) ?_
  refine E.OW.nil ?_
  refine E.then_n ?_
  refine E.CW.seq ?_
  refine E.CW.region ?_
  refine E.OW.pure rfl rfl rfl (E.PV.loads (i := 0) is114 rfl rfl rfl rfl) ?_
  (refine E.OW.call nm112 rfl rfl rfl rfl rfl rfl _ (fun w hw => valid_ok _ _ w) ?_; rintro _ _ ⟨rfl, rfl⟩)
  refine E.OW.pure rfl rfl rfl (E.PV.move rfl rfl) ?_
  all_goals (refine E.OW.split 7 rfl (fun hc => ?_) (fun hc => ?_) <;> (try simp only [E.b0, E.b1, E.b2, E.b3, E.b4, E.b5, E.b6, E.b7, E.b8, E.b9, E.b10, E.b11, E.b12, E.b13, E.b14, E.b15, E.b16, E.b17, E.b18, E.b19, E.b20, reduceCtorEq] at hc) <;> (try (exfalso; first | assumption | contradiction | omega)))
  all_goals (first | (refine E.OW.off rfl rfl rfl ?_) | (refine E.OW.pure rfl rfl rfl (E.PV.move rfl rfl) ?_))
  all_goals (first | (refine E.OW.off rfl rfl rfl ?_) | (refine E.OW.pure rfl rfl rfl (E.PV.loads (i := 0) is114 rfl rfl rfl rfl) ?_))
  all_goals (first | (refine E.OW.off rfl rfl rfl ?_) | ((refine E.OW.call nm113 rfl rfl rfl rfl rfl rfl _ (fun w hw => size_ok _ _ (Fl.valid_iff.1 (by assumption)) w) ?_; rintro _ _ ⟨rfl, rfl⟩)))
  all_goals (first | (refine E.OW.off rfl rfl rfl ?_) | ((refine E.OW.call nm115 rfl rfl rfl rfl rfl rfl _ (fun w hw => in_ok _ _ w) ?_; rintro _ _ ⟨rfl, rfl⟩)))
  all_goals (first | (refine E.OW.pure rfl rfl rfl (E.PV.pick_t rfl rfl rfl) ?_) | (refine E.OW.pure rfl rfl rfl (E.PV.pick_f rfl rfl rfl) ?_))
  all_goals (refine E.OW.pure rfl rfl rfl (E.PV.assign rfl rfl) ?_)
  all_goals (
    refine E.OW.nil ?_
    refine E.then_n ?_
    refine E.CW.ret ?_
    refine E.KR.one [] Try.results85 rfl rfl ?_
    exact ⟨by simp [Fl.has, *], rfl⟩)

set_option maxRecDepth 100000 in
theorem at_ok (a b x y : Int) (w0 : World) :
    Calls Try.prog 154 #[.agg #[.int .i64 a, .int .i64 b], .int .i64 x, .int .i64 y] w0 (E.Post w0 (E.Old w0) fun v Hn => v = .tuple #[.int .i64 (Fl.at_ a b x y).1, .bool (Fl.at_ a b x y).2] ∧ Hn = []) := by
  refine E.calls_of (vs := [.agg #[.int .i64 a, .int .i64 b], .int .i64 x, .int .i64 y]) (H := []) Try.func154 Try.ntmps154 rfl rfl (E.HA.start w0) ?_
  refine E.CW.seq ?_
  refine E.CW.region ?_
  refine E.OW.box rfl rfl rfl rfl rfl rfl (fun B1 => ?_)
  refine E.OW.pure rfl rfl rfl (E.PV.assign rfl rfl) ?_
  refine E.OW.pure rfl rfl rfl (E.PV.assign rfl rfl) ?_
  refine E.OW.nil ?_
  refine E.then_n ?_
  refine E.CW.seq ?_
  refine E.CW.seq ?_
  refine E.CW.region ?_
  refine E.OW.pure rfl rfl rfl (E.PV.loads (i := 0) is114 rfl rfl rfl rfl) ?_
  (refine E.OW.call nm112 rfl rfl rfl rfl rfl rfl _ (fun w hw => valid_ok _ _ w) ?_; rintro _ _ ⟨rfl, rfl⟩)
  refine E.OW.pure rfl rfl rfl (E.PV.not rfl rfl) ?_
  refine E.OW.pure rfl rfl rfl (E.PV.move rfl rfl) ?_
  all_goals (refine E.OW.split 11 rfl (fun hc => ?_) (fun hc => ?_) <;> (try simp only [E.b0, E.b1, E.b2, E.b3, E.b4, E.b5, E.b6, E.b7, E.b8, E.b9, E.b10, E.b11, E.b12, E.b13, E.b14, E.b15, E.b16, E.b17, E.b18, E.b19, E.b20, reduceCtorEq] at hc) <;> (try (exfalso; first | assumption | contradiction | omega)))
  all_goals (first | (refine E.OW.off rfl rfl rfl ?_) | (refine E.OW.pure rfl rfl rfl (E.PV.move rfl rfl) ?_))
  all_goals (first | (refine E.OW.off rfl rfl rfl ?_) | (refine E.OW.pure rfl rfl rfl (E.PV.fieldAddr fa114_0 rfl rfl) ?_))
  all_goals (first | (refine E.OW.off rfl rfl rfl ?_) | (refine E.OW.pure rfl rfl rfl (E.PV.load (i := 0) na3 rfl rfl rfl rfl) ?_))
  all_goals (first | (refine E.OW.off rfl rfl rfl ?_) | ((refine E.OW.call nm115 rfl rfl rfl rfl rfl rfl _ (fun w hw => in_ok _ _ w) ?_; rintro _ _ ⟨rfl, rfl⟩)))
  all_goals (first | (refine E.OW.off rfl rfl rfl ?_) | (refine E.OW.pure rfl rfl rfl (E.PV.not rfl rfl) ?_))
  all_goals (first | (refine E.OW.pure rfl rfl rfl (E.PV.pick_t rfl rfl rfl) ?_) | (refine E.OW.pure rfl rfl rfl (E.PV.pick_f rfl rfl rfl) ?_))
  all_goals (refine E.OW.pure rfl rfl rfl (E.PV.move rfl rfl) ?_)
  all_goals (first | (refine E.OW.put 18 (.bool true) (v := .bool true) rfl rfl ?_) | (refine E.OW.split 18 rfl (fun hc => ?_) (fun hc => ?_) <;> (try simp only [E.b0, E.b1, E.b2, E.b3, E.b4, E.b5, E.b6, E.b7, E.b8, E.b9, E.b10, E.b11, E.b12, E.b13, E.b14, E.b15, E.b16, E.b17, E.b18, E.b19, E.b20, reduceCtorEq] at hc) <;> (try (exfalso; first | assumption | contradiction | omega))))
  all_goals (first | (refine E.OW.off rfl rfl rfl ?_) | (refine E.OW.pure rfl rfl rfl (E.PV.move rfl rfl) ?_))
  all_goals (first | (refine E.OW.off rfl rfl rfl ?_) | (refine E.OW.pure rfl rfl rfl (E.PV.fieldAddr fa114_1 rfl rfl) ?_))
  all_goals (first | (refine E.OW.off rfl rfl rfl ?_) | (refine E.OW.pure rfl rfl rfl (E.PV.load (i := 0) na3 rfl rfl rfl rfl) ?_))
  all_goals (first | (refine E.OW.off rfl rfl rfl ?_) | ((refine E.OW.call nm115 rfl rfl rfl rfl rfl rfl _ (fun w hw => in_ok _ _ w) ?_; rintro _ _ ⟨rfl, rfl⟩)))
  all_goals (first | (refine E.OW.off rfl rfl rfl ?_) | (refine E.OW.pure rfl rfl rfl (E.PV.not rfl rfl) ?_))
  all_goals (first | (refine E.OW.pure rfl rfl rfl (E.PV.pick_t rfl rfl rfl) ?_) | (refine E.OW.pure rfl rfl rfl (E.PV.pick_f rfl rfl rfl) ?_))
  all_goals (
    refine E.OW.nil ?_
    refine E.then_n ?_
    refine E.CW.cond rfl (fun hc => ?_) (fun hc => ?_)
    · simp only [E.b0, E.b1, E.b2, E.b3, E.b4, E.b5, E.b6, E.b7, E.b8, E.b9, E.b10, E.b11, E.b12, E.b13, E.b14, E.b15, E.b16, E.b17, E.b18, E.b19, E.b20, reduceCtorEq] at hc
      all_goals (
        refine E.CW.seq ?_
        refine E.CW.region ?_
        refine E.OW.pure rfl rfl rfl (E.PV.assign rfl rfl) ?_
        refine E.OW.pure rfl rfl rfl (E.PV.assign rfl rfl) ?_
        refine E.OW.nil ?_
        refine E.then_n ?_
        refine E.CW.ret ?_
        refine E.then_ret ?_
        refine E.KR.two [] Try.results154 rfl rfl rfl ?_
        exact ⟨by simp [Fl.at_, *], rfl⟩)
    · first | ((cases hc; done)) | (simp only [E.b0, E.b1, E.b2, E.b3, E.b4, E.b5, E.b6, E.b7, E.b8, E.b9, E.b10, E.b11, E.b12, E.b13, E.b14, E.b15, E.b16, E.b17, E.b18, E.b19, E.b20, reduceCtorEq] at hc)
      all_goals (
        refine E.CW.skip ?_
        refine E.then_n ?_
        refine E.CW.seq ?_
        have hv := Fl.valid_iff.1 (show Fl.valid a b = true by assumption)
        have hx := Fl.inB_iff.1 (show Fl.inB x a = true by assumption)
        have hy := Fl.inB_iff.1 (show Fl.inB y b = true by assumption)
        have hm := Fl.mulb (a := y) (b := a) (by omega) (by omega)
        refine E.CW.region ?_
        refine E.OW.pure rfl rfl rfl (E.PV.move rfl rfl) ?_
        refine E.OW.pure rfl rfl rfl (E.PV.fieldAddr fa114_0 rfl rfl) ?_
        refine E.OW.pure rfl rfl rfl (E.PV.load (i := 0) na3 rfl rfl rfl rfl) ?_
        refine E.OW.pure rfl rfl rfl (E.PV.mul_i64 rfl rfl rfl ?_) ?_; (focus (omega))
        refine E.OW.pure rfl rfl rfl (E.PV.move rfl rfl) ?_
        refine E.OW.pure rfl rfl rfl (E.PV.add_i64 rfl rfl rfl ?_) ?_; (focus (omega))
        refine E.OW.pure rfl rfl rfl (E.PV.assign rfl rfl) ?_
        refine E.OW.pure rfl rfl rfl (E.PV.assign rfl rfl) ?_
        refine E.OW.nil ?_
        refine E.then_n ?_
        refine E.CW.ret ?_
        refine E.KR.two [] Try.results154 rfl rfl rfl ?_
        exact ⟨by simp [Fl.at_, *], rfl⟩))

set_option maxRecDepth 100000 in
theorem moved_ok (a b p d : Int) (hv : 2 ≤ a ∧ a ≤ 8 ∧ 2 ≤ b ∧ b ≤ 8) (hp : 0 ≤ p ∧ p < a * b) (hd : 0 ≤ d ∧ d < 4) (w0 : World) :
    Calls Try.prog 148 #[.agg #[.int .i64 a, .int .i64 b], .int .i64 p, .int .i64 d] w0 (E.Post w0 (E.Old w0) fun v Hn => v = .tuple #[.int .i64 (Fl.moved a b p d).1, .bool (Fl.moved a b p d).2] ∧ Hn = []) := by
  have hb := Fl.div_b hv hp
  have hm := Fl.mulb (a := a) (b := b) (by omega) (by omega)
  have h4 : d = 0 ∨ d = 1 ∨ d = 2 ∨ d = 3 := by omega
  rcases h4 with h4 | h4 | h4 | h4
  all_goals (
    refine E.calls_of (vs := [.agg #[.int .i64 a, .int .i64 b], .int .i64 p, .int .i64 d]) (H := []) Try.func148 Try.ntmps148 rfl rfl (E.HA.start w0) ?_
    refine E.CW.seq ?_
    refine E.CW.region ?_
    refine E.OW.box rfl rfl rfl rfl rfl rfl (fun B1 => ?_)
    refine E.OW.pure rfl rfl rfl (E.PV.assign rfl rfl) ?_
    refine E.OW.pure rfl rfl rfl (E.PV.assign rfl rfl) ?_
    refine E.OW.nil ?_
    refine E.then_n ?_
    refine E.CW.seq ?_
    refine E.CW.draw mixed (by kernel_rfl) ?_
    refine E.QW.pure rfl rfl rfl (E.PV.move rfl rfl) ?_
    refine E.QW.pure rfl rfl rfl (E.PV.fieldAddr fa114_0 rfl rfl) ?_
    refine E.QW.pure rfl rfl rfl (E.PV.load (i := 0) na3 rfl rfl rfl rfl) ?_
    refine E.QW.pure rfl rfl rfl (E.PV.rem_i64 rfl rfl rfl ?_ ?_) ?_; (focus (omega)); (focus (omega))
    refine E.QW.pure rfl rfl rfl (E.PV.move rfl rfl) ?_
    refine E.QW.pure rfl rfl rfl (E.PV.fieldAddr fa114_0 rfl rfl) ?_
    refine E.QW.pure rfl rfl rfl (E.PV.load (i := 0) na3 rfl rfl rfl rfl) ?_
    refine E.QW.pure rfl rfl rfl (E.PV.quo_i64 rfl rfl rfl ?_ ?_) ?_; (focus (omega)); (focus (omega))
    refine E.QW.pure rfl rfl rfl (E.PV.assign rfl rfl) ?_
    refine E.QW.pure rfl rfl rfl (E.PV.assign rfl rfl) ?_
    refine E.QW.nil ?_
    refine E.then_n ?_
    refine E.CW.seq ?_
    refine E.CW.seq ?_
    refine E.CW.region ?_
    refine E.OW.pure rfl rfl rfl (E.PV.move rfl rfl) ?_
    refine E.OW.nil ?_
    refine E.then_n ?_
    refine E.CW.block ?_
    refine E.CW.seq ?_
    refine E.CW.region ?_
    refine E.OW.pure rfl rfl rfl (E.PV.eql rfl rfl rfl) ?_
    refine E.OW.pure rfl rfl rfl (E.PV.assign rfl rfl) ?_
    refine E.OW.nil ?_
    refine E.then_n ?_
    refine E.CW.cond rfl (fun hc => ?_) (fun hc => ?_)
    · simp only [E.b0, E.b1, E.b2, E.b3, E.b4, E.b5, E.b6, E.b7, E.b8, E.b9, E.b10, E.b11, E.b12, E.b13, E.b14, E.b15, E.b16, E.b17, E.b18, E.b19, E.b20, reduceCtorEq] at hc
      all_goals (try (exfalso; omega))
      all_goals (
        refine E.CW.region ?_
        refine E.OW.pure rfl rfl rfl (E.PV.move rfl rfl) ?_
        refine E.OW.pure rfl rfl rfl (E.PV.sub_i64 rfl rfl rfl ?_) ?_; (focus (omega))
        refine E.OW.pure rfl rfl rfl (E.PV.assign rfl rfl) ?_
        refine E.OW.nil ?_
        refine E.blk_n ?_
        refine E.then_n ?_
        refine E.CW.seq ?_
        refine E.CW.region ?_
        refine E.OW.pure rfl rfl rfl (E.PV.loads (i := 0) is114 rfl rfl rfl rfl) ?_
        refine E.OW.pure rfl rfl rfl (E.PV.move rfl rfl) ?_
        refine E.OW.pure rfl rfl rfl (E.PV.move rfl rfl) ?_
        (refine E.OW.call nm154 rfl rfl rfl rfl rfl rfl _ (fun w hw => at_ok _ _ _ _ w) ?_; rintro _ _ ⟨rfl, rfl⟩)
        refine E.OW.pure rfl rfl rfl (E.PV.extract rfl rfl rfl) ?_
        refine E.OW.pure rfl rfl rfl (E.PV.extract rfl rfl rfl) ?_
        refine E.OW.pure rfl rfl rfl (E.PV.assign rfl rfl) ?_
        refine E.OW.pure rfl rfl rfl (E.PV.assign rfl rfl) ?_
        refine E.OW.nil ?_
        refine E.then_n ?_
        refine E.CW.ret ?_
        refine E.KR.two [] Try.results148 rfl rfl rfl ?_
        exact ⟨by simp [Fl.moved, Fl.dx, Fl.dy, Int.sub_eq_add_neg, h4], rfl⟩)
    · simp only [E.b0, E.b1, E.b2, E.b3, E.b4, E.b5, E.b6, E.b7, E.b8, E.b9, E.b10, E.b11, E.b12, E.b13, E.b14, E.b15, E.b16, E.b17, E.b18, E.b19, E.b20, reduceCtorEq] at hc
      all_goals (try (exfalso; contradiction))
      all_goals (
        refine E.CW.seq ?_
        refine E.CW.region ?_
        refine E.OW.pure rfl rfl rfl (E.PV.eql rfl rfl rfl) ?_
        refine E.OW.pure rfl rfl rfl (E.PV.assign rfl rfl) ?_
        refine E.OW.nil ?_
        refine E.then_n ?_
        refine E.CW.cond rfl (fun hc => ?_) (fun hc => ?_)
        · simp only [E.b0, E.b1, E.b2, E.b3, E.b4, E.b5, E.b6, E.b7, E.b8, E.b9, E.b10, E.b11, E.b12, E.b13, E.b14, E.b15, E.b16, E.b17, E.b18, E.b19, E.b20, reduceCtorEq] at hc
          all_goals (try (exfalso; omega))
          all_goals (
            refine E.CW.region ?_
            refine E.OW.pure rfl rfl rfl (E.PV.move rfl rfl) ?_
            refine E.OW.pure rfl rfl rfl (E.PV.add_i64 rfl rfl rfl ?_) ?_; (focus (omega))
            refine E.OW.pure rfl rfl rfl (E.PV.assign rfl rfl) ?_
            refine E.OW.nil ?_
            refine E.blk_n ?_
            refine E.then_n ?_
            refine E.CW.seq ?_
            refine E.CW.region ?_
            refine E.OW.pure rfl rfl rfl (E.PV.loads (i := 0) is114 rfl rfl rfl rfl) ?_
            refine E.OW.pure rfl rfl rfl (E.PV.move rfl rfl) ?_
            refine E.OW.pure rfl rfl rfl (E.PV.move rfl rfl) ?_
            (refine E.OW.call nm154 rfl rfl rfl rfl rfl rfl _ (fun w hw => at_ok _ _ _ _ w) ?_; rintro _ _ ⟨rfl, rfl⟩)
            refine E.OW.pure rfl rfl rfl (E.PV.extract rfl rfl rfl) ?_
            refine E.OW.pure rfl rfl rfl (E.PV.extract rfl rfl rfl) ?_
            refine E.OW.pure rfl rfl rfl (E.PV.assign rfl rfl) ?_
            refine E.OW.pure rfl rfl rfl (E.PV.assign rfl rfl) ?_
            refine E.OW.nil ?_
            refine E.then_n ?_
            refine E.CW.ret ?_
            refine E.KR.two [] Try.results148 rfl rfl rfl ?_
            exact ⟨by simp [Fl.moved, Fl.dx, Fl.dy, Int.sub_eq_add_neg, h4], rfl⟩)
        · simp only [E.b0, E.b1, E.b2, E.b3, E.b4, E.b5, E.b6, E.b7, E.b8, E.b9, E.b10, E.b11, E.b12, E.b13, E.b14, E.b15, E.b16, E.b17, E.b18, E.b19, E.b20, reduceCtorEq] at hc
          all_goals (try (exfalso; contradiction))
          all_goals (
            refine E.CW.seq ?_
            refine E.CW.region ?_
            refine E.OW.pure rfl rfl rfl (E.PV.eql rfl rfl rfl) ?_
            refine E.OW.pure rfl rfl rfl (E.PV.assign rfl rfl) ?_
            refine E.OW.nil ?_
            refine E.then_n ?_
            refine E.CW.cond rfl (fun hc => ?_) (fun hc => ?_)
            · simp only [E.b0, E.b1, E.b2, E.b3, E.b4, E.b5, E.b6, E.b7, E.b8, E.b9, E.b10, E.b11, E.b12, E.b13, E.b14, E.b15, E.b16, E.b17, E.b18, E.b19, E.b20, reduceCtorEq] at hc
              all_goals (try (exfalso; omega))
              all_goals (
                refine E.CW.region ?_
                refine E.OW.pure rfl rfl rfl (E.PV.move rfl rfl) ?_
                refine E.OW.pure rfl rfl rfl (E.PV.add_i64 rfl rfl rfl ?_) ?_; (focus (omega))
                refine E.OW.pure rfl rfl rfl (E.PV.assign rfl rfl) ?_
                refine E.OW.nil ?_
                refine E.blk_n ?_
                refine E.then_n ?_
                refine E.CW.seq ?_
                refine E.CW.region ?_
                refine E.OW.pure rfl rfl rfl (E.PV.loads (i := 0) is114 rfl rfl rfl rfl) ?_
                refine E.OW.pure rfl rfl rfl (E.PV.move rfl rfl) ?_
                refine E.OW.pure rfl rfl rfl (E.PV.move rfl rfl) ?_
                (refine E.OW.call nm154 rfl rfl rfl rfl rfl rfl _ (fun w hw => at_ok _ _ _ _ w) ?_; rintro _ _ ⟨rfl, rfl⟩)
                refine E.OW.pure rfl rfl rfl (E.PV.extract rfl rfl rfl) ?_
                refine E.OW.pure rfl rfl rfl (E.PV.extract rfl rfl rfl) ?_
                refine E.OW.pure rfl rfl rfl (E.PV.assign rfl rfl) ?_
                refine E.OW.pure rfl rfl rfl (E.PV.assign rfl rfl) ?_
                refine E.OW.nil ?_
                refine E.then_n ?_
                refine E.CW.ret ?_
                refine E.KR.two [] Try.results148 rfl rfl rfl ?_
                exact ⟨by simp [Fl.moved, Fl.dx, Fl.dy, Int.sub_eq_add_neg, h4], rfl⟩)
            · simp only [E.b0, E.b1, E.b2, E.b3, E.b4, E.b5, E.b6, E.b7, E.b8, E.b9, E.b10, E.b11, E.b12, E.b13, E.b14, E.b15, E.b16, E.b17, E.b18, E.b19, E.b20, reduceCtorEq] at hc
              all_goals (try (exfalso; contradiction))
              all_goals (
                refine E.CW.seq ?_
                refine E.CW.region ?_
                refine E.OW.pure rfl rfl rfl (E.PV.eql rfl rfl rfl) ?_
                refine E.OW.pure rfl rfl rfl (E.PV.assign rfl rfl) ?_
                refine E.OW.nil ?_
                refine E.then_n ?_
                refine E.CW.cond rfl (fun hc => ?_) (fun hc => ?_)
                · simp only [E.b0, E.b1, E.b2, E.b3, E.b4, E.b5, E.b6, E.b7, E.b8, E.b9, E.b10, E.b11, E.b12, E.b13, E.b14, E.b15, E.b16, E.b17, E.b18, E.b19, E.b20, reduceCtorEq] at hc
                  all_goals (
                    refine E.CW.region ?_
                    refine E.OW.pure rfl rfl rfl (E.PV.move rfl rfl) ?_
                    refine E.OW.pure rfl rfl rfl (E.PV.sub_i64 rfl rfl rfl ?_) ?_; (focus (omega))
                    refine E.OW.pure rfl rfl rfl (E.PV.assign rfl rfl) ?_
                    refine E.OW.nil ?_
                    refine E.blk_n ?_
                    refine E.then_n ?_
                    refine E.CW.seq ?_
                    refine E.CW.region ?_
                    refine E.OW.pure rfl rfl rfl (E.PV.loads (i := 0) is114 rfl rfl rfl rfl) ?_
                    refine E.OW.pure rfl rfl rfl (E.PV.move rfl rfl) ?_
                    refine E.OW.pure rfl rfl rfl (E.PV.move rfl rfl) ?_
                    (refine E.OW.call nm154 rfl rfl rfl rfl rfl rfl _ (fun w hw => at_ok _ _ _ _ w) ?_; rintro _ _ ⟨rfl, rfl⟩)
                    refine E.OW.pure rfl rfl rfl (E.PV.extract rfl rfl rfl) ?_
                    refine E.OW.pure rfl rfl rfl (E.PV.extract rfl rfl rfl) ?_
                    refine E.OW.pure rfl rfl rfl (E.PV.assign rfl rfl) ?_
                    refine E.OW.pure rfl rfl rfl (E.PV.assign rfl rfl) ?_
                    refine E.OW.nil ?_
                    refine E.then_n ?_
                    refine E.CW.ret ?_
                    refine E.KR.two [] Try.results148 rfl rfl rfl ?_
                    exact ⟨by simp [Fl.moved, Fl.dx, Fl.dy, Int.sub_eq_add_neg, h4], rfl⟩)
                · simp only [E.b0, E.b1, E.b2, E.b3, E.b4, E.b5, E.b6, E.b7, E.b8, E.b9, E.b10, E.b11, E.b12, E.b13, E.b14, E.b15, E.b16, E.b17, E.b18, E.b19, E.b20, reduceCtorEq] at hc
                  all_goals (exfalso; contradiction)))))

set_option maxRecDepth 100000 in
theorem Step_ok (a b p d : Int) (w0 : World) :
    Calls Try.prog 127 #[.int .i64 a, .int .i64 b, .int .i64 p, .int .i64 d] w0 (E.Post w0 (E.Old w0) fun v Hn => v = .tuple #[.int .i64 (Fl.step a b p d).1, .int .i64 (Fl.step a b p d).2] ∧ Hn = []) := by
  refine E.calls_of (vs := [.int .i64 a, .int .i64 b, .int .i64 p, .int .i64 d]) (H := []) Try.func127 Try.ntmps127 rfl rfl (E.HA.start w0) ?_
  refine E.CW.seq ?_
  refine E.CW.region ?_
  refine E.OW.pure rfl rfl rfl (E.PV.assign rfl rfl) ?_
  refine E.OW.pure rfl rfl rfl (E.PV.assign rfl rfl) ?_
  refine E.OW.nil ?_
  refine E.then_n ?_
  refine E.CW.seq ?_
  refine E.CW.region ?_
  refine E.OW.pure rfl rfl rfl (E.PV.move rfl rfl) ?_
  refine E.OW.pure rfl rfl rfl (E.PV.move rfl rfl) ?_
  refine E.OW.pure rfl rfl rfl (E.PV.build (ps := [(0, .tmp 13), (1, .tmp 14)]) rfl rfl (fun w => bld114_0_1 _ _ w)) ?_
  refine E.OW.alloc (in114.zr) rfl rfl rfl rfl rfl (fun B1 => ?_)
  refine E.OW.store (i := 0) in114.size rfl rfl rfl rfl rfl rfl rfl rfl rfl ?_
  refine E.OW.nil ?_
  refine E.then_n ?_
  refine E.CW.seq ?_
  refine E.CW.seq ?_
  refine E.CW.region ?_
  refine E.OW.pure rfl rfl rfl (E.PV.loads (i := 0) is114 rfl rfl rfl rfl) ?_
  refine E.OW.pure rfl rfl rfl (E.PV.move rfl rfl) ?_
  (refine E.OW.call nm85 rfl rfl rfl rfl rfl rfl _ (fun w hw => has_ok _ _ _ w) ?_; rintro _ _ ⟨rfl, rfl⟩)
  refine E.OW.pure rfl rfl rfl (E.PV.not rfl rfl) ?_
  refine E.OW.pure rfl rfl rfl (E.PV.move rfl rfl) ?_
  all_goals (refine E.OW.split 20 rfl (fun hc => ?_) (fun hc => ?_) <;> (try simp only [E.b0, E.b1, E.b2, E.b3, E.b4, E.b5, E.b6, E.b7, E.b8, E.b9, E.b10, E.b11, E.b12, E.b13, E.b14, E.b15, E.b16, E.b17, E.b18, E.b19, E.b20, reduceCtorEq] at hc) <;> (try (exfalso; first | assumption | contradiction | omega)))
  all_goals (first | (refine E.OW.off rfl rfl rfl ?_) | (refine E.OW.pure rfl rfl rfl (E.PV.move rfl rfl) ?_))
  all_goals (first | (refine E.OW.off rfl rfl rfl ?_) | ((refine E.OW.call nm115 rfl rfl rfl rfl rfl rfl _ (fun w hw => in_ok _ _ w) ?_; rintro _ _ ⟨rfl, rfl⟩)))
  all_goals (first | (refine E.OW.off rfl rfl rfl ?_) | (refine E.OW.pure rfl rfl rfl (E.PV.not rfl rfl) ?_))
  all_goals (first | (refine E.OW.pure rfl rfl rfl (E.PV.pick_t rfl rfl rfl) ?_) | (refine E.OW.pure rfl rfl rfl (E.PV.pick_f rfl rfl rfl) ?_))
  all_goals (
    refine E.OW.nil ?_
    refine E.then_n ?_
    refine E.CW.cond rfl (fun hc => ?_) (fun hc => ?_)
    · simp only [E.b0, E.b1, E.b2, E.b3, E.b4, E.b5, E.b6, E.b7, E.b8, E.b9, E.b10, E.b11, E.b12, E.b13, E.b14, E.b15, E.b16, E.b17, E.b18, E.b19, E.b20, reduceCtorEq] at hc
      all_goals (
        refine E.CW.seq ?_
        refine E.CW.region ?_
        refine E.OW.pure rfl rfl rfl (E.PV.assign rfl rfl) ?_
        refine E.OW.pure rfl rfl rfl (E.PV.assign rfl rfl) ?_
        refine E.OW.nil ?_
        refine E.then_n ?_
        refine E.CW.ret ?_
        refine E.then_ret ?_
        refine E.KR.two [] Try.results127 rfl rfl rfl ?_
        exact ⟨by simp [Fl.step, *], rfl⟩)
    · first | ((cases hc; done)) | (simp only [E.b0, E.b1, E.b2, E.b3, E.b4, E.b5, E.b6, E.b7, E.b8, E.b9, E.b10, E.b11, E.b12, E.b13, E.b14, E.b15, E.b16, E.b17, E.b18, E.b19, E.b20, reduceCtorEq] at hc)
      all_goals (
        refine E.CW.skip ?_
        refine E.then_n ?_
        refine E.CW.seq ?_
        refine E.CW.region ?_
        refine E.OW.pure rfl rfl rfl (E.PV.loads (i := 0) is114 rfl rfl rfl rfl) ?_
        refine E.OW.pure rfl rfl rfl (E.PV.move rfl rfl) ?_
        refine E.OW.pure rfl rfl rfl (E.PV.move rfl rfl) ?_
        (refine E.OW.call nm148 rfl rfl rfl rfl rfl rfl _ (fun w hw => moved_ok _ _ _ _ (Fl.has_iff.1 (by assumption)).1 (Fl.has_iff.1 (by assumption)).2 (Fl.inB_iff.1 (by assumption)) w) ?_; rintro _ _ ⟨rfl, rfl⟩)
        refine E.OW.pure rfl rfl rfl (E.PV.move rfl rfl) ?_
        refine E.OW.pure rfl rfl rfl (E.PV.extract rfl rfl rfl) ?_
        refine E.OW.pure rfl rfl rfl (E.PV.extract rfl rfl rfl) ?_
        refine E.OW.pure rfl rfl rfl (E.PV.assign rfl rfl) ?_
        refine E.OW.pure rfl rfl rfl (E.PV.assign rfl rfl) ?_
        refine E.OW.nil ?_
        refine E.then_n ?_
        refine E.CW.seq ?_
        refine E.CW.seq ?_
        refine E.CW.region ?_
        refine E.OW.pure rfl rfl rfl (E.PV.move rfl rfl) ?_
        refine E.OW.pure rfl rfl rfl (E.PV.not rfl rfl) ?_
        refine E.OW.nil ?_
        refine E.then_n ?_
        refine E.CW.cond rfl (fun hc => ?_) (fun hc => ?_)
        · simp only [E.b0, E.b1, E.b2, E.b3, E.b4, E.b5, E.b6, E.b7, E.b8, E.b9, E.b10, E.b11, E.b12, E.b13, E.b14, E.b15, E.b16, E.b17, E.b18, E.b19, E.b20, reduceCtorEq] at hc
          all_goals (
            refine E.CW.seq ?_
            refine E.CW.region ?_
            refine E.OW.pure rfl rfl rfl (E.PV.assign rfl rfl) ?_
            refine E.OW.pure rfl rfl rfl (E.PV.assign rfl rfl) ?_
            refine E.OW.nil ?_
            refine E.then_n ?_
            refine E.CW.ret ?_
            refine E.then_ret ?_
            refine E.KR.two [] Try.results127 rfl rfl rfl ?_
            exact ⟨by simp [Fl.step, *], rfl⟩)
        · simp only [E.b0, E.b1, E.b2, E.b3, E.b4, E.b5, E.b6, E.b7, E.b8, E.b9, E.b10, E.b11, E.b12, E.b13, E.b14, E.b15, E.b16, E.b17, E.b18, E.b19, E.b20, reduceCtorEq] at hc
          all_goals (
            refine E.CW.skip ?_
            refine E.then_n ?_
            refine E.CW.seq ?_
            refine E.CW.region ?_
            refine E.OW.pure rfl rfl rfl (E.PV.move rfl rfl) ?_
            refine E.OW.pure rfl rfl rfl (E.PV.assign rfl rfl) ?_
            refine E.OW.pure rfl rfl rfl (E.PV.assign rfl rfl) ?_
            refine E.OW.nil ?_
            refine E.then_n ?_
            refine E.CW.ret ?_
            refine E.KR.two [] Try.results127 rfl rfl rfl ?_
            exact ⟨by simp [Fl.step, *], rfl⟩)))

set_option maxRecDepth 100000 in
theorem rValidSides_ok (a b : Int) (w0 : World) :
    Calls Try.prog 142 #[.int .i64 a, .int .i64 b] w0 (E.Post w0 (E.Old w0) fun v Hn => v = .bool (Fl.valid a b) ∧ Hn = []) := by
  refine E.calls_of (vs := [.int .i64 a, .int .i64 b]) (H := []) Try.func142 Try.ntmps142 rfl rfl (E.HA.start w0) ?_
  refine E.CW.seq ?_
  refine E.CW.region ?_
  refine E.OW.pure rfl rfl rfl (E.PV.assign rfl rfl) ?_
  refine E.OW.nil ?_
  refine E.then_n ?_
  refine E.CW.seq ?_
  refine E.CW.region ?_
  refine E.OW.pure rfl rfl rfl (E.PV.move rfl rfl) ?_
  refine E.OW.pure rfl rfl rfl (E.PV.geq rfl rfl rfl) ?_
  refine E.OW.pure rfl rfl rfl (E.PV.move rfl rfl) ?_
  all_goals (refine E.OW.split 7 rfl (fun hc => ?_) (fun hc => ?_) <;> (try simp only [E.b0, E.b1, E.b2, E.b3, E.b4, E.b5, E.b6, E.b7, E.b8, E.b9, E.b10, E.b11, E.b12, E.b13, E.b14, E.b15, E.b16, E.b17, E.b18, E.b19, E.b20, reduceCtorEq] at hc) <;> (try (exfalso; first | assumption | contradiction | omega)))
  all_goals (first | (refine E.OW.off rfl rfl rfl ?_) | (refine E.OW.pure rfl rfl rfl (E.PV.move rfl rfl) ?_))
  all_goals (first | (refine E.OW.off rfl rfl rfl ?_) | (refine E.OW.pure rfl rfl rfl (E.PV.leq rfl rfl rfl) ?_))
  all_goals (first | (refine E.OW.pure rfl rfl rfl (E.PV.pick_t rfl rfl rfl) ?_) | (refine E.OW.pure rfl rfl rfl (E.PV.pick_f rfl rfl rfl) ?_))
  all_goals (refine E.OW.pure rfl rfl rfl (E.PV.move rfl rfl) ?_)
  all_goals (first | (refine E.OW.put 11 (.bool false) (v := .bool false) rfl rfl ?_) | (refine E.OW.split 11 rfl (fun hc => ?_) (fun hc => ?_) <;> (try simp only [E.b0, E.b1, E.b2, E.b3, E.b4, E.b5, E.b6, E.b7, E.b8, E.b9, E.b10, E.b11, E.b12, E.b13, E.b14, E.b15, E.b16, E.b17, E.b18, E.b19, E.b20, reduceCtorEq] at hc) <;> (try (exfalso; first | assumption | contradiction | omega))))
  all_goals (first | (refine E.OW.off rfl rfl rfl ?_) | (refine E.OW.pure rfl rfl rfl (E.PV.move rfl rfl) ?_))
  all_goals (first | (refine E.OW.off rfl rfl rfl ?_) | (refine E.OW.pure rfl rfl rfl (E.PV.geq rfl rfl rfl) ?_))
  all_goals (first | (refine E.OW.pure rfl rfl rfl (E.PV.pick_t rfl rfl rfl) ?_) | (refine E.OW.pure rfl rfl rfl (E.PV.pick_f rfl rfl rfl) ?_))
  all_goals (refine E.OW.pure rfl rfl rfl (E.PV.move rfl rfl) ?_)
  all_goals (first | (refine E.OW.put 15 (.bool false) (v := .bool false) rfl rfl ?_) | (refine E.OW.split 15 rfl (fun hc => ?_) (fun hc => ?_) <;> (try simp only [E.b0, E.b1, E.b2, E.b3, E.b4, E.b5, E.b6, E.b7, E.b8, E.b9, E.b10, E.b11, E.b12, E.b13, E.b14, E.b15, E.b16, E.b17, E.b18, E.b19, E.b20, reduceCtorEq] at hc) <;> (try (exfalso; first | assumption | contradiction | omega))))
  all_goals (first | (refine E.OW.off rfl rfl rfl ?_) | (refine E.OW.pure rfl rfl rfl (E.PV.move rfl rfl) ?_))
  all_goals (first | (refine E.OW.off rfl rfl rfl ?_) | (refine E.OW.pure rfl rfl rfl (E.PV.leq rfl rfl rfl) ?_))
  all_goals (first | (refine E.OW.pure rfl rfl rfl (E.PV.pick_t rfl rfl rfl) ?_) | (refine E.OW.pure rfl rfl rfl (E.PV.pick_f rfl rfl rfl) ?_))
  all_goals (refine E.OW.pure rfl rfl rfl (E.PV.assign rfl rfl) ?_)
  all_goals (
    refine E.OW.nil ?_
    refine E.then_n ?_
    refine E.CW.ret ?_
    refine E.KR.one [] Try.results142 rfl rfl ?_
    exact ⟨by simp [Fl.valid, *] <;> omega, rfl⟩)

set_option maxRecDepth 100000 in
theorem rMove_ok (a b p d : Int) (hv : 2 ≤ a ∧ a ≤ 8 ∧ 2 ≤ b ∧ b ≤ 8) (hp : 0 ≤ p ∧ p < a * b) (hd : 0 ≤ d ∧ d < 4) (w0 : World) :
    Calls Try.prog 104 #[.int .i64 a, .int .i64 b, .int .i64 p, .int .i64 d] w0 (E.Post w0 (E.Old w0) fun v Hn => v = .int .i64 (Fl.mv a b p d) ∧ Hn = []) := by
  have hb := Fl.div_b hv hp
  have hm := Fl.mulb (a := a) (b := b) (by omega) (by omega)
  have e := Fl.mv_eq hv hp hd
  revert e
  generalize Fl.mv a b p d = r
  intro e
  have he := Lib.hid e
  clear e
  refine E.calls_of (vs := [.int .i64 a, .int .i64 b, .int .i64 p, .int .i64 d]) (H := []) Try.func104 Try.ntmps104 rfl rfl (E.HA.start w0) ?_
  refine E.CW.seq ?_
  refine E.CW.region ?_
  refine E.OW.pure rfl rfl rfl (E.PV.assign rfl rfl) ?_
  refine E.OW.nil ?_
  refine E.then_n ?_
  refine E.CW.seq ?_
  refine E.CW.region ?_
  refine E.OW.pure rfl rfl rfl (E.PV.move rfl rfl) ?_
  refine E.OW.pure rfl rfl rfl (E.PV.move rfl rfl) ?_
  refine E.OW.pure rfl rfl rfl (E.PV.rem_i64 rfl rfl rfl ?_ ?_) ?_; (focus (omega)); (focus (omega))
  refine E.OW.pure rfl rfl rfl (E.PV.assign rfl rfl) ?_
  refine E.OW.nil ?_
  refine E.then_n ?_
  refine E.CW.seq ?_
  refine E.CW.region ?_
  refine E.OW.pure rfl rfl rfl (E.PV.move rfl rfl) ?_
  refine E.OW.pure rfl rfl rfl (E.PV.move rfl rfl) ?_
  refine E.OW.pure rfl rfl rfl (E.PV.quo_i64 rfl rfl rfl ?_ ?_) ?_; (focus (omega)); (focus (omega))
  refine E.OW.pure rfl rfl rfl (E.PV.assign rfl rfl) ?_
  refine E.OW.nil ?_
  refine E.then_n ?_
  refine E.CW.seq ?_
  refine E.CW.seq ?_
  refine E.CW.region ?_
  refine E.OW.pure rfl rfl rfl (E.PV.move rfl rfl) ?_
  refine E.OW.pure rfl rfl rfl (E.PV.eql rfl rfl rfl) ?_
  refine E.OW.pure rfl rfl rfl (E.PV.move rfl rfl) ?_
  all_goals (refine E.OW.split 19 rfl (fun hc => ?_) (fun hc => ?_) <;> (try simp only [E.b0, E.b1, E.b2, E.b3, E.b4, E.b5, E.b6, E.b7, E.b8, E.b9, E.b10, E.b11, E.b12, E.b13, E.b14, E.b15, E.b16, E.b17, E.b18, E.b19, E.b20, reduceCtorEq] at hc) <;> (try (exfalso; first | assumption | contradiction | omega)))
  all_goals (first | (refine E.OW.off rfl rfl rfl ?_) | (refine E.OW.pure rfl rfl rfl (E.PV.move rfl rfl) ?_))
  all_goals (first | (refine E.OW.off rfl rfl rfl ?_) | (refine E.OW.pure rfl rfl rfl (E.PV.gtr rfl rfl rfl) ?_))
  all_goals (first | (refine E.OW.pure rfl rfl rfl (E.PV.pick_t rfl rfl rfl) ?_) | (refine E.OW.pure rfl rfl rfl (E.PV.pick_f rfl rfl rfl) ?_))
  all_goals (
    refine E.OW.nil ?_
    refine E.then_n ?_
    refine E.CW.cond rfl (fun hc => ?_) (fun hc => ?_)
    · first | ((cases hc; done)) | (simp only [E.b0, E.b1, E.b2, E.b3, E.b4, E.b5, E.b6, E.b7, E.b8, E.b9, E.b10, E.b11, E.b12, E.b13, E.b14, E.b15, E.b16, E.b17, E.b18, E.b19, E.b20, reduceCtorEq] at hc)
      all_goals (
        refine E.CW.seq ?_
        refine E.CW.region ?_
        refine E.OW.pure rfl rfl rfl (E.PV.move rfl rfl) ?_
        refine E.OW.pure rfl rfl rfl (E.PV.move rfl rfl) ?_
        refine E.OW.pure rfl rfl rfl (E.PV.sub_i64 rfl rfl rfl ?_) ?_; (focus (omega))
        refine E.OW.pure rfl rfl rfl (E.PV.assign rfl rfl) ?_
        refine E.OW.nil ?_
        refine E.then_n ?_
        refine E.CW.ret ?_
        refine E.then_ret ?_
        refine E.KR.one [] Try.results104 rfl rfl ?_
        exact ⟨by rw [he.out]; first | (rw [if_pos (by omega)]; done) | (rw [if_neg (by omega), if_pos (by omega)]; done) | (rw [if_neg (by omega), if_neg (by omega), if_pos (by omega)]; done) | (rw [if_neg (by omega), if_neg (by omega), if_neg (by omega), if_pos (by omega)]; done) | (rw [if_neg (by omega), if_neg (by omega), if_neg (by omega), if_neg (by omega)]; done), rfl⟩)
    · simp only [E.b0, E.b1, E.b2, E.b3, E.b4, E.b5, E.b6, E.b7, E.b8, E.b9, E.b10, E.b11, E.b12, E.b13, E.b14, E.b15, E.b16, E.b17, E.b18, E.b19, E.b20, reduceCtorEq] at hc
      all_goals (
        refine E.CW.skip ?_
        refine E.then_n ?_
        refine E.CW.seq ?_
        refine E.CW.seq ?_
        refine E.CW.region ?_
        refine E.OW.pure rfl rfl rfl (E.PV.move rfl rfl) ?_
        refine E.OW.pure rfl rfl rfl (E.PV.eql rfl rfl rfl) ?_
        refine E.OW.pure rfl rfl rfl (E.PV.move rfl rfl) ?_
        all_goals (first | (refine E.OW.put 28 (.bool false) rfl (congrArg Value.bool ?_) ?_; (focus ((simp only [E.b0, E.b1, E.b2, E.b3, E.b4, E.b5, E.b6, E.b7, E.b8, E.b9, E.b10, E.b11, E.b12, E.b13, E.b14, E.b15, E.b16, E.b17, E.b18, E.b19, E.b20]; omega)))) | (refine E.OW.split 28 rfl (fun hc => ?_) (fun hc => ?_) <;> (try simp only [E.b0, E.b1, E.b2, E.b3, E.b4, E.b5, E.b6, E.b7, E.b8, E.b9, E.b10, E.b11, E.b12, E.b13, E.b14, E.b15, E.b16, E.b17, E.b18, E.b19, E.b20, reduceCtorEq] at hc) <;> (try (exfalso; first | assumption | contradiction | omega))))
        all_goals (first | (refine E.OW.off rfl rfl rfl ?_) | (refine E.OW.pure rfl rfl rfl (E.PV.move rfl rfl) ?_))
        all_goals (first | (refine E.OW.off rfl rfl rfl ?_) | (refine E.OW.pure rfl rfl rfl (E.PV.move rfl rfl) ?_))
        all_goals (first | (refine E.OW.off rfl rfl rfl ?_) | (refine E.OW.pure rfl rfl rfl (E.PV.sub_i64 rfl rfl rfl ?_) ?_; (focus (omega))))
        all_goals (first | (refine E.OW.off rfl rfl rfl ?_) | (refine E.OW.pure rfl rfl rfl (E.PV.lss rfl rfl rfl) ?_))
        all_goals (first | (refine E.OW.pure rfl rfl rfl (E.PV.pick_t rfl rfl rfl) ?_) | (refine E.OW.pure rfl rfl rfl (E.PV.pick_f rfl rfl rfl) ?_))
        all_goals (
          refine E.OW.nil ?_
          refine E.then_n ?_
          refine E.CW.cond rfl (fun hc => ?_) (fun hc => ?_)
          · first | ((cases hc; done)) | (simp only [E.b0, E.b1, E.b2, E.b3, E.b4, E.b5, E.b6, E.b7, E.b8, E.b9, E.b10, E.b11, E.b12, E.b13, E.b14, E.b15, E.b16, E.b17, E.b18, E.b19, E.b20, reduceCtorEq] at hc)
            all_goals (
              refine E.CW.seq ?_
              refine E.CW.region ?_
              refine E.OW.pure rfl rfl rfl (E.PV.move rfl rfl) ?_
              refine E.OW.pure rfl rfl rfl (E.PV.add_i64 rfl rfl rfl ?_) ?_; (focus (omega))
              refine E.OW.pure rfl rfl rfl (E.PV.assign rfl rfl) ?_
              refine E.OW.nil ?_
              refine E.then_n ?_
              refine E.CW.ret ?_
              refine E.then_ret ?_
              refine E.KR.one [] Try.results104 rfl rfl ?_
              exact ⟨by rw [he.out]; first | (rw [if_pos (by omega)]; done) | (rw [if_neg (by omega), if_pos (by omega)]; done) | (rw [if_neg (by omega), if_neg (by omega), if_pos (by omega)]; done) | (rw [if_neg (by omega), if_neg (by omega), if_neg (by omega), if_pos (by omega)]; done) | (rw [if_neg (by omega), if_neg (by omega), if_neg (by omega), if_neg (by omega)]; done), rfl⟩)
          · simp only [E.b0, E.b1, E.b2, E.b3, E.b4, E.b5, E.b6, E.b7, E.b8, E.b9, E.b10, E.b11, E.b12, E.b13, E.b14, E.b15, E.b16, E.b17, E.b18, E.b19, E.b20, reduceCtorEq] at hc
            all_goals (
              refine E.CW.skip ?_
              refine E.then_n ?_
              refine E.CW.seq ?_
              refine E.CW.seq ?_
              refine E.CW.region ?_
              refine E.OW.pure rfl rfl rfl (E.PV.move rfl rfl) ?_
              refine E.OW.pure rfl rfl rfl (E.PV.eql rfl rfl rfl) ?_
              refine E.OW.pure rfl rfl rfl (E.PV.move rfl rfl) ?_
              all_goals (first | (refine E.OW.put 38 (.bool false) rfl (congrArg Value.bool ?_) ?_; (focus ((simp only [E.b0, E.b1, E.b2, E.b3, E.b4, E.b5, E.b6, E.b7, E.b8, E.b9, E.b10, E.b11, E.b12, E.b13, E.b14, E.b15, E.b16, E.b17, E.b18, E.b19, E.b20]; omega)))) | (refine E.OW.split 38 rfl (fun hc => ?_) (fun hc => ?_) <;> (try simp only [E.b0, E.b1, E.b2, E.b3, E.b4, E.b5, E.b6, E.b7, E.b8, E.b9, E.b10, E.b11, E.b12, E.b13, E.b14, E.b15, E.b16, E.b17, E.b18, E.b19, E.b20, reduceCtorEq] at hc) <;> (try (exfalso; first | assumption | contradiction | omega))))
              all_goals (first | (refine E.OW.off rfl rfl rfl ?_) | (refine E.OW.pure rfl rfl rfl (E.PV.move rfl rfl) ?_))
              all_goals (first | (refine E.OW.off rfl rfl rfl ?_) | (refine E.OW.pure rfl rfl rfl (E.PV.move rfl rfl) ?_))
              all_goals (first | (refine E.OW.off rfl rfl rfl ?_) | (refine E.OW.pure rfl rfl rfl (E.PV.sub_i64 rfl rfl rfl ?_) ?_; (focus (omega))))
              all_goals (first | (refine E.OW.off rfl rfl rfl ?_) | (refine E.OW.pure rfl rfl rfl (E.PV.lss rfl rfl rfl) ?_))
              all_goals (first | (refine E.OW.pure rfl rfl rfl (E.PV.pick_t rfl rfl rfl) ?_) | (refine E.OW.pure rfl rfl rfl (E.PV.pick_f rfl rfl rfl) ?_))
              all_goals (
                refine E.OW.nil ?_
                refine E.then_n ?_
                refine E.CW.cond rfl (fun hc => ?_) (fun hc => ?_)
                · first | ((cases hc; done)) | (simp only [E.b0, E.b1, E.b2, E.b3, E.b4, E.b5, E.b6, E.b7, E.b8, E.b9, E.b10, E.b11, E.b12, E.b13, E.b14, E.b15, E.b16, E.b17, E.b18, E.b19, E.b20, reduceCtorEq] at hc)
                  all_goals (
                    refine E.CW.seq ?_
                    refine E.CW.region ?_
                    refine E.OW.pure rfl rfl rfl (E.PV.move rfl rfl) ?_
                    refine E.OW.pure rfl rfl rfl (E.PV.move rfl rfl) ?_
                    refine E.OW.pure rfl rfl rfl (E.PV.add_i64 rfl rfl rfl ?_) ?_; (focus (omega))
                    refine E.OW.pure rfl rfl rfl (E.PV.assign rfl rfl) ?_
                    refine E.OW.nil ?_
                    refine E.then_n ?_
                    refine E.CW.ret ?_
                    refine E.then_ret ?_
                    refine E.KR.one [] Try.results104 rfl rfl ?_
                    exact ⟨by rw [he.out]; first | (rw [if_pos (by omega)]; done) | (rw [if_neg (by omega), if_pos (by omega)]; done) | (rw [if_neg (by omega), if_neg (by omega), if_pos (by omega)]; done) | (rw [if_neg (by omega), if_neg (by omega), if_neg (by omega), if_pos (by omega)]; done) | (rw [if_neg (by omega), if_neg (by omega), if_neg (by omega), if_neg (by omega)]; done), rfl⟩)
                · simp only [E.b0, E.b1, E.b2, E.b3, E.b4, E.b5, E.b6, E.b7, E.b8, E.b9, E.b10, E.b11, E.b12, E.b13, E.b14, E.b15, E.b16, E.b17, E.b18, E.b19, E.b20, reduceCtorEq] at hc
                  all_goals (
                    refine E.CW.skip ?_
                    refine E.then_n ?_
                    refine E.CW.seq ?_
                    refine E.CW.seq ?_
                    refine E.CW.region ?_
                    refine E.OW.pure rfl rfl rfl (E.PV.move rfl rfl) ?_
                    refine E.OW.pure rfl rfl rfl (E.PV.eql rfl rfl rfl) ?_
                    refine E.OW.pure rfl rfl rfl (E.PV.move rfl rfl) ?_
                    all_goals (first | (refine E.OW.put 49 (.bool true) rfl (congrArg Value.bool ?_) ?_; (focus ((simp only [E.b0, E.b1, E.b2, E.b3, E.b4, E.b5, E.b6, E.b7, E.b8, E.b9, E.b10, E.b11, E.b12, E.b13, E.b14, E.b15, E.b16, E.b17, E.b18, E.b19, E.b20]; omega)))) | (refine E.OW.put 49 (.bool false) rfl (congrArg Value.bool ?_) ?_; (focus ((simp only [E.b0, E.b1, E.b2, E.b3, E.b4, E.b5, E.b6, E.b7, E.b8, E.b9, E.b10, E.b11, E.b12, E.b13, E.b14, E.b15, E.b16, E.b17, E.b18, E.b19, E.b20]; omega)))))
                    all_goals (first | (refine E.OW.off rfl rfl rfl ?_) | (refine E.OW.pure rfl rfl rfl (E.PV.move rfl rfl) ?_))
                    all_goals (first | (refine E.OW.off rfl rfl rfl ?_) | (refine E.OW.pure rfl rfl rfl (E.PV.gtr rfl rfl rfl) ?_))
                    all_goals (first | (refine E.OW.pure rfl rfl rfl (E.PV.pick_t rfl rfl rfl) ?_) | (refine E.OW.pure rfl rfl rfl (E.PV.pick_f rfl rfl rfl) ?_))
                    all_goals (
                      refine E.OW.nil ?_
                      refine E.then_n ?_
                      refine E.CW.cond rfl (fun hc => ?_) (fun hc => ?_)
                      · first | ((cases hc; done)) | (simp only [E.b0, E.b1, E.b2, E.b3, E.b4, E.b5, E.b6, E.b7, E.b8, E.b9, E.b10, E.b11, E.b12, E.b13, E.b14, E.b15, E.b16, E.b17, E.b18, E.b19, E.b20, reduceCtorEq] at hc)
                        all_goals (
                          refine E.CW.seq ?_
                          refine E.CW.region ?_
                          refine E.OW.pure rfl rfl rfl (E.PV.move rfl rfl) ?_
                          refine E.OW.pure rfl rfl rfl (E.PV.sub_i64 rfl rfl rfl ?_) ?_; (focus (omega))
                          refine E.OW.pure rfl rfl rfl (E.PV.assign rfl rfl) ?_
                          refine E.OW.nil ?_
                          refine E.then_n ?_
                          refine E.CW.ret ?_
                          refine E.then_ret ?_
                          refine E.KR.one [] Try.results104 rfl rfl ?_
                          exact ⟨by rw [he.out]; first | (rw [if_pos (by omega)]; done) | (rw [if_neg (by omega), if_pos (by omega)]; done) | (rw [if_neg (by omega), if_neg (by omega), if_pos (by omega)]; done) | (rw [if_neg (by omega), if_neg (by omega), if_neg (by omega), if_pos (by omega)]; done) | (rw [if_neg (by omega), if_neg (by omega), if_neg (by omega), if_neg (by omega)]; done), rfl⟩)
                      · simp only [E.b0, E.b1, E.b2, E.b3, E.b4, E.b5, E.b6, E.b7, E.b8, E.b9, E.b10, E.b11, E.b12, E.b13, E.b14, E.b15, E.b16, E.b17, E.b18, E.b19, E.b20, reduceCtorEq] at hc
                        all_goals (
                          refine E.CW.skip ?_
                          refine E.then_n ?_
                          refine E.CW.seq ?_
                          refine E.CW.region ?_
                          refine E.OW.pure rfl rfl rfl (E.PV.assign rfl rfl) ?_
                          refine E.OW.nil ?_
                          refine E.then_n ?_
                          refine E.CW.ret ?_
                          refine E.KR.one [] Try.results104 rfl rfl ?_
                          exact ⟨by rw [he.out]; first | (rw [if_pos (by omega)]; done) | (rw [if_neg (by omega), if_pos (by omega)]; done) | (rw [if_neg (by omega), if_neg (by omega), if_pos (by omega)]; done) | (rw [if_neg (by omega), if_neg (by omega), if_neg (by omega), if_pos (by omega)]; done) | (rw [if_neg (by omega), if_neg (by omega), if_neg (by omega), if_neg (by omega)]; done), rfl⟩))))))))

set_option maxRecDepth 100000 in
theorem Max_ok (A : Option Addr) (c : Nat) (l : List UInt8) (w0 : World) (h1 : 1 ≤ l.length) (hl : l.length ≤ 140737488355328) (hX : E.Rd w0 (E.Old w0) A (E.u8s l)) :
    Calls Try.prog 134 #[.slice A l.length c] w0 (E.Post w0 (E.Old w0) fun v Hn => v = .int .u8 (Fl.mx l) ∧ Hn = []) := by
  refine E.calls_of (vs := [.slice A l.length c]) (H := []) Try.func134 Try.ntmps134 rfl rfl (E.HA.start w0) ?_
  refine E.CW.seq ?_
  refine E.CW.region ?_
  refine E.OW.pure rfl rfl rfl (E.PV.assign rfl rfl) ?_
  refine E.OW.nil ?_
  refine E.then_n ?_
  refine E.CW.seq ?_
  refine E.CW.seq ?_
  refine E.CW.region ?_
  refine E.OW.pure rfl rfl rfl (E.PV.move rfl rfl) ?_
  refine E.OW.pure rfl rfl rfl (E.PV.len Try.underlying22 rfl rfl) ?_
  refine E.OW.pure rfl rfl rfl (E.PV.lss rfl rfl rfl) ?_
  refine E.OW.nil ?_
  refine E.then_n ?_
  refine E.CW.cond rfl (fun hc => ?_) (fun hc => ?_)
  · simp only [E.b0, E.b1, E.b2, E.b3, E.b4, E.b5, E.b6, E.b7, E.b8, E.b9, E.b10, E.b11, E.b12, E.b13, E.b14, E.b15, E.b16, E.b17, E.b18, E.b19, E.b20, reduceCtorEq] at hc
    all_goals (exfalso; omega)
  · simp only [E.b0, E.b1, E.b2, E.b3, E.b4, E.b5, E.b6, E.b7, E.b8, E.b9, E.b10, E.b11, E.b12, E.b13, E.b14, E.b15, E.b16, E.b17, E.b18, E.b19, E.b20, reduceCtorEq] at hc
    all_goals (
      refine E.CW.skip ?_
      refine E.then_n ?_
      refine E.CW.seq ?_
      refine E.CW.region ?_
      refine E.OW.pure rfl rfl rfl (E.PV.move rfl rfl) ?_
      refine E.OW.pure rfl rfl rfl (E.PV.indexAddr1 (E.rdc hX) Try.underlying22 in5 rfl rfl rfl (E.tn ?_) ?_ ?_) ?_; (focus (omega)); (focus (first | (simp; done) | (simp; omega))); (focus (omega))
      refine E.OW.pure rfl rfl rfl (E.PV.load_u8 (E.rdc hX) na5 rfl rfl ?_) ?_; (focus (omega))
      refine E.OW.pure rfl rfl rfl (E.PV.assign rfl rfl) ?_
      refine E.OW.nil ?_
      refine E.then_n ?_
      refine E.CW.seq ?_
      refine E.CW.seq ?_
      refine E.CW.region ?_
      refine E.OW.pure rfl rfl rfl (E.PV.assign rfl rfl) ?_
      refine E.OW.nil ?_
      refine E.then_n ?_
      refine E.CW.block ?_
      refine E.CW.loopk [0] 0 rfl rfl (fun mm mods Hm => ∃ k : Nat, mm = l.length - k ∧ mods = [(3, .int .u8 (Fl.mx (l.take k))), (4, .int .i64 k)] ∧ Hm = [] ∧ (1 ≤ k ∧ k ≤ l.length)) (l.length - 1) ?_ ?_
      · exact ⟨[(3, _), (4, _)], (by repeat (first | exact E.cov_nil | refine ⟨rfl, ?_⟩)), 1, rfl, by rw [Fl.mx_one (by omega)]; try rfl, rfl, by omega⟩
      · rintro _ _ _ ⟨k, rfl, rfl, rfl, hk⟩
        refine E.CW.seq ?_
        refine E.CW.seq ?_
        refine E.CW.region ?_
        refine E.OW.pure rfl rfl rfl (E.PV.move rfl rfl) ?_
        refine E.OW.pure rfl rfl rfl (E.PV.move rfl rfl) ?_
        refine E.OW.pure rfl rfl rfl (E.PV.len Try.underlying22 rfl rfl) ?_
        refine E.OW.pure rfl rfl rfl (E.PV.lss rfl rfl rfl) ?_
        refine E.OW.nil ?_
        refine E.then_n ?_
        refine E.CW.cond rfl (fun hc => ?_) (fun hc => ?_)
        · simp only [E.b0, E.b1, E.b2, E.b3, E.b4, E.b5, E.b6, E.b7, E.b8, E.b9, E.b10, E.b11, E.b12, E.b13, E.b14, E.b15, E.b16, E.b17, E.b18, E.b19, E.b20, reduceCtorEq] at hc
          all_goals (
            refine E.CW.skip ?_
            refine E.then_n ?_
            refine E.CW.seq ?_
            refine E.CW.block ?_
            refine E.CW.region ?_
            refine E.OW.pure rfl rfl rfl (E.PV.move rfl rfl) ?_
            refine E.OW.pure rfl rfl rfl (E.PV.move rfl rfl) ?_
            refine E.OW.pure rfl rfl rfl (E.PV.move rfl rfl) ?_
            refine E.OW.pure rfl rfl rfl (E.PV.indexAddr1 (E.rdc hX) Try.underlying22 in5 rfl rfl rfl rfl ?_ ?_) ?_; (focus (first | (simp; done) | (simp; omega))); (focus (omega))
            refine E.OW.pure rfl rfl rfl (E.PV.load_u8 (E.rdc hX) na5 rfl rfl ?_) ?_; (focus (omega))
            refine E.OW.pure rfl rfl rfl (E.PV.max rfl rfl rfl) ?_
            refine E.OW.pure rfl rfl rfl (E.PV.assign rfl rfl) ?_
            refine E.OW.nil ?_
            refine E.blk_n ?_
            refine E.then_n ?_
            refine E.CW.region ?_
            refine E.OW.pure rfl rfl rfl (E.PV.move rfl rfl) ?_
            refine E.OW.pure rfl rfl rfl (E.PV.add_i64 rfl rfl rfl ?_) ?_; (focus (omega))
            refine E.OW.pure rfl rfl rfl (E.PV.assign rfl rfl) ?_
            refine E.OW.nil ?_
            refine E.then_nf ?_
            refine ⟨_, [(3, _), (4, _)], [], _, ?_, by repeat (first | exact E.cov_nil | refine ⟨rfl, ?_⟩), rfl, k + 1, rfl, by rw [Fl.mx_take (by omega)]; rfl, rfl, by omega⟩
            omega)
        · simp only [E.b0, E.b1, E.b2, E.b3, E.b4, E.b5, E.b6, E.b7, E.b8, E.b9, E.b10, E.b11, E.b12, E.b13, E.b14, E.b15, E.b16, E.b17, E.b18, E.b19, E.b20, reduceCtorEq] at hc
          all_goals (
            refine E.CW.exit ?_
            refine E.then_x ?_
            refine E.then_x ?_
            refine E.blk_eq ?_
            refine E.then_n ?_
            refine E.CW.seq ?_
            refine E.CW.region ?_
            refine E.OW.pure rfl rfl rfl (E.PV.move rfl rfl) ?_
            refine E.OW.pure rfl rfl rfl (E.PV.assign rfl rfl) ?_
            refine E.OW.nil ?_
            refine E.then_n ?_
            refine E.CW.ret ?_
            refine E.KR.one [] Try.results134 rfl rfl ?_
            exact ⟨by rw [List.take_of_length_le (by omega)], rfl⟩))

set_option maxRecDepth 100000 in
theorem CheckSlices_ok (A : Option Addr) (c : Nat) (l : List UInt8) (w0 : World) (hl : l.length ≤ 140737488355328) (hX : E.Rd w0 (E.Old w0) A (E.u8s l)) :
    Calls Try.prog 117 #[.slice A l.length c] w0 (E.Post w0 (E.Old w0) fun v Hn => v = .int .i64 (Fl.checkS l) ∧ Hn = []) := by
  refine E.calls_of (vs := [.slice A l.length c]) (H := []) Try.func117 Try.ntmps117 rfl rfl (E.HA.start w0) ?_
  refine E.CW.seq ?_
  refine E.CW.region ?_
  refine E.OW.pure rfl rfl rfl (E.PV.assign rfl rfl) ?_
  refine E.OW.nil ?_
  refine E.then_n ?_
  refine E.CW.seq ?_
  refine E.CW.seq ?_
  refine E.CW.region ?_
  refine E.OW.pure rfl rfl rfl (E.PV.move rfl rfl) ?_
  refine E.OW.pure rfl rfl rfl (E.PV.len Try.underlying22 rfl rfl) ?_
  refine E.OW.pure rfl rfl rfl (E.PV.lss rfl rfl rfl) ?_
  refine E.OW.pure rfl rfl rfl (E.PV.move rfl rfl) ?_
  all_goals (refine E.OW.split 6 rfl (fun hc => ?_) (fun hc => ?_) <;> (try simp only [E.b0, E.b1, E.b2, E.b3, E.b4, E.b5, E.b6, E.b7, E.b8, E.b9, E.b10, E.b11, E.b12, E.b13, E.b14, E.b15, E.b16, E.b17, E.b18, E.b19, E.b20, reduceCtorEq] at hc) <;> (try (exfalso; first | assumption | contradiction | omega)))
  all_goals (first | (refine E.OW.off rfl rfl rfl ?_) | (refine E.OW.pure rfl rfl rfl (E.PV.move rfl rfl) ?_))
  all_goals (first | (refine E.OW.off rfl rfl rfl ?_) | (refine E.OW.pure rfl rfl rfl (E.PV.len Try.underlying22 rfl rfl) ?_))
  all_goals (first | (refine E.OW.off rfl rfl rfl ?_) | (refine E.OW.pure rfl rfl rfl (E.PV.gtr rfl rfl rfl) ?_))
  all_goals (first | (refine E.OW.pure rfl rfl rfl (E.PV.pick_t rfl rfl rfl) ?_) | (refine E.OW.pure rfl rfl rfl (E.PV.pick_f rfl rfl rfl) ?_))
  all_goals (refine E.OW.pure rfl rfl rfl (E.PV.move rfl rfl) ?_)
  all_goals (first | (refine E.OW.put 11 (.bool true) (v := .bool true) rfl rfl ?_) | (refine E.OW.split 11 rfl (fun hc => ?_) (fun hc => ?_) <;> (try simp only [E.b0, E.b1, E.b2, E.b3, E.b4, E.b5, E.b6, E.b7, E.b8, E.b9, E.b10, E.b11, E.b12, E.b13, E.b14, E.b15, E.b16, E.b17, E.b18, E.b19, E.b20, reduceCtorEq] at hc) <;> (try (exfalso; first | assumption | contradiction | omega))))
  all_goals (first | (refine E.OW.off rfl rfl rfl ?_) | (refine E.OW.pure rfl rfl rfl (E.PV.move rfl rfl) ?_))
  all_goals (first | (refine E.OW.off rfl rfl rfl ?_) | ((refine E.OW.call nm134 rfl rfl rfl rfl rfl rfl _ (fun w hw => Max_ok _ _ _ w ?_ ?_ ?_) ?_; (focus (omega)); (focus (assumption)); (focus (refine hw.rd ?_; assumption)); rintro _ _ ⟨rfl, rfl⟩)))
  all_goals (first | (refine E.OW.off rfl rfl rfl ?_) | (refine E.OW.pure rfl rfl rfl (E.PV.gtr rfl rfl rfl) ?_))
  all_goals (first | (refine E.OW.pure rfl rfl rfl (E.PV.pick_t rfl rfl rfl) ?_) | (refine E.OW.pure rfl rfl rfl (E.PV.pick_f rfl rfl rfl) ?_))
  all_goals (
    refine E.OW.nil ?_
    refine E.then_n ?_
    refine E.CW.cond rfl (fun hc => ?_) (fun hc => ?_)
    · simp only [E.b0, E.b1, E.b2, E.b3, E.b4, E.b5, E.b6, E.b7, E.b8, E.b9, E.b10, E.b11, E.b12, E.b13, E.b14, E.b15, E.b16, E.b17, E.b18, E.b19, E.b20, reduceCtorEq] at hc
      all_goals (
        refine E.CW.seq ?_
        refine E.CW.region ?_
        refine E.OW.pure rfl rfl rfl (E.PV.assign rfl rfl) ?_
        refine E.OW.nil ?_
        refine E.then_n ?_
        refine E.CW.ret ?_
        refine E.then_ret ?_
        refine E.KR.one [] Try.results117 rfl rfl ?_
        exact ⟨by rw [Fl.checkS, if_neg (by intro hh; have := Fl.validS_iff.1 hh; have := @Fl.mx_le3 l; simp_all; omega)], rfl⟩)
    · first | ((cases hc; done)) | (simp only [E.b0, E.b1, E.b2, E.b3, E.b4, E.b5, E.b6, E.b7, E.b8, E.b9, E.b10, E.b11, E.b12, E.b13, E.b14, E.b15, E.b16, E.b17, E.b18, E.b19, E.b20, reduceCtorEq] at hc)
      all_goals (
        refine E.CW.skip ?_
        refine E.then_n ?_
        refine E.CW.seq ?_
        refine E.CW.region ?_
        refine E.OW.pure rfl rfl rfl (E.PV.assign rfl rfl) ?_
        refine E.OW.nil ?_
        refine E.then_n ?_
        refine E.CW.ret ?_
        refine E.KR.one [] Try.results117 rfl rfl ?_
        exact ⟨by rw [Fl.checkS, if_pos (Fl.validS_iff.2 ⟨by omega, Fl.mx_le3.1 (by assumption)⟩)], rfl⟩))

set_option maxRecDepth 100000 in
theorem rValidSlices_ok (A : Option Addr) (c : Nat) (l : List UInt8) (w0 : World) (hl : l.length ≤ 140737488355328) (hX : E.Rd w0 (E.Old w0) A (E.u8s l)) :
    Calls Try.prog 121 #[.slice A l.length c] w0 (E.Post w0 (E.Old w0) fun v Hn => v = .bool (Fl.validS l) ∧ Hn = []) := by
  refine E.calls_of (vs := [.slice A l.length c]) (H := []) Try.func121 Try.ntmps121 rfl rfl (E.HA.start w0) ?_
  refine E.CW.seq ?_
  refine E.CW.region ?_
  refine E.OW.pure rfl rfl rfl (E.PV.assign rfl rfl) ?_
  refine E.OW.nil ?_
  refine E.then_n ?_
  refine E.CW.seq ?_
  refine E.CW.seq ?_
  refine E.CW.region ?_
  refine E.OW.pure rfl rfl rfl (E.PV.move rfl rfl) ?_
  refine E.OW.pure rfl rfl rfl (E.PV.len Try.underlying22 rfl rfl) ?_
  refine E.OW.pure rfl rfl rfl (E.PV.lss rfl rfl rfl) ?_
  refine E.OW.pure rfl rfl rfl (E.PV.move rfl rfl) ?_
  all_goals (refine E.OW.split 7 rfl (fun hc => ?_) (fun hc => ?_) <;> (try simp only [E.b0, E.b1, E.b2, E.b3, E.b4, E.b5, E.b6, E.b7, E.b8, E.b9, E.b10, E.b11, E.b12, E.b13, E.b14, E.b15, E.b16, E.b17, E.b18, E.b19, E.b20, reduceCtorEq] at hc) <;> (try (exfalso; first | assumption | contradiction | omega)))
  all_goals (first | (refine E.OW.off rfl rfl rfl ?_) | (refine E.OW.pure rfl rfl rfl (E.PV.move rfl rfl) ?_))
  all_goals (first | (refine E.OW.off rfl rfl rfl ?_) | (refine E.OW.pure rfl rfl rfl (E.PV.len Try.underlying22 rfl rfl) ?_))
  all_goals (first | (refine E.OW.off rfl rfl rfl ?_) | (refine E.OW.pure rfl rfl rfl (E.PV.gtr rfl rfl rfl) ?_))
  all_goals (first | (refine E.OW.pure rfl rfl rfl (E.PV.pick_t rfl rfl rfl) ?_) | (refine E.OW.pure rfl rfl rfl (E.PV.pick_f rfl rfl rfl) ?_))
  all_goals (
    refine E.OW.nil ?_
    refine E.then_n ?_
    refine E.CW.cond rfl (fun hc => ?_) (fun hc => ?_)
    · simp only [E.b0, E.b1, E.b2, E.b3, E.b4, E.b5, E.b6, E.b7, E.b8, E.b9, E.b10, E.b11, E.b12, E.b13, E.b14, E.b15, E.b16, E.b17, E.b18, E.b19, E.b20, reduceCtorEq] at hc
      all_goals (
        refine E.CW.seq ?_
        refine E.CW.region ?_
        refine E.OW.pure rfl rfl rfl (E.PV.assign rfl rfl) ?_
        refine E.OW.nil ?_
        refine E.then_n ?_
        refine E.CW.ret ?_
        refine E.then_ret ?_
        refine E.KR.one [] Try.results121 rfl rfl ?_
        exact ⟨by rw [Fl.validS_len (by omega)], rfl⟩)
    · first | ((cases hc; done)) | (simp only [E.b0, E.b1, E.b2, E.b3, E.b4, E.b5, E.b6, E.b7, E.b8, E.b9, E.b10, E.b11, E.b12, E.b13, E.b14, E.b15, E.b16, E.b17, E.b18, E.b19, E.b20, reduceCtorEq] at hc)
      all_goals (
        refine E.CW.skip ?_
        refine E.then_n ?_
        refine E.CW.seq ?_
        refine E.CW.seq ?_
        refine E.CW.region ?_
        refine E.OW.pure rfl rfl rfl (E.PV.assign rfl rfl) ?_
        refine E.OW.nil ?_
        refine E.then_n ?_
        refine E.CW.block ?_
        refine E.CW.loopk [0] 0 rfl rfl (fun mm mods Hm => ∃ k : Nat, mm = l.length - k ∧ mods = [(3, .int .i64 k)] ∧ Hm = [] ∧ (k ≤ l.length ∧ ∀ j, j < k → (l.getD j 0).toNat ≤ 3)) (l.length) ?_ ?_
        · exact ⟨[(3, _)], (by repeat (first | exact E.cov_nil | refine ⟨rfl, ?_⟩)), 0, rfl, rfl, rfl, by omega, fun j hj => by omega⟩
        · rintro _ _ _ ⟨k, rfl, rfl, rfl, hk, hI⟩
          refine E.CW.seq ?_
          refine E.CW.seq ?_
          refine E.CW.region ?_
          refine E.OW.pure rfl rfl rfl (E.PV.move rfl rfl) ?_
          refine E.OW.pure rfl rfl rfl (E.PV.move rfl rfl) ?_
          refine E.OW.pure rfl rfl rfl (E.PV.len Try.underlying22 rfl rfl) ?_
          refine E.OW.pure rfl rfl rfl (E.PV.lss rfl rfl rfl) ?_
          refine E.OW.nil ?_
          refine E.then_n ?_
          refine E.CW.cond rfl (fun hc => ?_) (fun hc => ?_)
          · simp only [E.b0, E.b1, E.b2, E.b3, E.b4, E.b5, E.b6, E.b7, E.b8, E.b9, E.b10, E.b11, E.b12, E.b13, E.b14, E.b15, E.b16, E.b17, E.b18, E.b19, E.b20, reduceCtorEq] at hc
            all_goals (
              refine E.CW.skip ?_
              refine E.then_n ?_
              refine E.CW.seq ?_
              refine E.CW.block ?_
              refine E.CW.seq ?_
              refine E.CW.region ?_
              refine E.OW.pure rfl rfl rfl (E.PV.move rfl rfl) ?_
              refine E.OW.pure rfl rfl rfl (E.PV.move rfl rfl) ?_
              refine E.OW.pure rfl rfl rfl (E.PV.indexAddr1 (E.rdc hX) Try.underlying22 in5 rfl rfl rfl rfl ?_ ?_) ?_; (focus (first | (simp; done) | (simp; omega))); (focus (omega))
              refine E.OW.pure rfl rfl rfl (E.PV.load_u8 (E.rdc hX) na5 rfl rfl ?_) ?_; (focus (omega))
              refine E.OW.pure rfl rfl rfl (E.PV.gtr rfl rfl rfl) ?_
              refine E.OW.nil ?_
              refine E.then_n ?_
              refine E.CW.cond rfl (fun hc => ?_) (fun hc => ?_)
              · simp only [E.b0, E.b1, E.b2, E.b3, E.b4, E.b5, E.b6, E.b7, E.b8, E.b9, E.b10, E.b11, E.b12, E.b13, E.b14, E.b15, E.b16, E.b17, E.b18, E.b19, E.b20, reduceCtorEq] at hc
                all_goals (
                  refine E.CW.seq ?_
                  refine E.CW.region ?_
                  refine E.OW.pure rfl rfl rfl (E.PV.assign rfl rfl) ?_
                  refine E.OW.nil ?_
                  refine E.then_n ?_
                  refine E.CW.ret ?_
                  refine E.blk_ret ?_
                  refine E.then_ret ?_
                  refine E.then_ret ?_
                  refine E.blk_ret ?_
                  refine E.then_ret ?_
                  refine E.KR.one [] Try.results121 rfl rfl ?_
                  exact ⟨by rw [Fl.validS_bad (k := k) (by omega) (by omega)], rfl⟩)
              · simp only [E.b0, E.b1, E.b2, E.b3, E.b4, E.b5, E.b6, E.b7, E.b8, E.b9, E.b10, E.b11, E.b12, E.b13, E.b14, E.b15, E.b16, E.b17, E.b18, E.b19, E.b20, reduceCtorEq] at hc
                all_goals (
                  refine E.CW.skip ?_
                  refine E.blk_n ?_
                  refine E.then_n ?_
                  refine E.CW.region ?_
                  refine E.OW.pure rfl rfl rfl (E.PV.move rfl rfl) ?_
                  refine E.OW.pure rfl rfl rfl (E.PV.add_i64 rfl rfl rfl ?_) ?_; (focus (omega))
                  refine E.OW.pure rfl rfl rfl (E.PV.assign rfl rfl) ?_
                  refine E.OW.nil ?_
                  refine E.then_nf ?_
                  refine ⟨_, [(3, _)], [], _, ?_, by repeat (first | exact E.cov_nil | refine ⟨rfl, ?_⟩), rfl, k + 1, rfl, rfl, rfl, by omega, fun j hj => by
    rcases Nat.lt_succ_iff_lt_or_eq.1 hj with h | rfl
    · exact hI j h
    · omega⟩
                  omega))
          · simp only [E.b0, E.b1, E.b2, E.b3, E.b4, E.b5, E.b6, E.b7, E.b8, E.b9, E.b10, E.b11, E.b12, E.b13, E.b14, E.b15, E.b16, E.b17, E.b18, E.b19, E.b20, reduceCtorEq] at hc
            all_goals (
              refine E.CW.exit ?_
              refine E.then_x ?_
              refine E.then_x ?_
              refine E.blk_eq ?_
              refine E.then_n ?_
              refine E.CW.seq ?_
              refine E.CW.region ?_
              refine E.OW.pure rfl rfl rfl (E.PV.assign rfl rfl) ?_
              refine E.OW.nil ?_
              refine E.then_n ?_
              refine E.CW.ret ?_
              refine E.KR.one [] Try.results121 rfl rfl ?_
              exact ⟨by rw [Fl.validS_good (by omega) (fun j hj => hI j (by omega))], rfl⟩)))

set_option maxRecDepth 100000 in
theorem SliceOwner_ok (A : Option Addr) (c : Nat) (l : List UInt8) (tick : Int) (ht : 0 ≤ tick ∧ tick < 18446744073709551616) (w0 : World) (hl : l.length ≤ 140737488355328) (hX : E.Rd w0 (E.Old w0) A (E.u8s l)) :
    Calls Try.prog 102 #[.slice A l.length c, .int .u64 tick] w0 (E.Post w0 (E.Old w0) fun v Hn => v = .tuple #[.int .i64 (Fl.sliceOwner l tick).1, .int .i64 (Fl.sliceOwner l tick).2] ∧ Hn = []) := by
  refine E.calls_of (vs := [.slice A l.length c, .int .u64 tick]) (H := []) Try.func102 Try.ntmps102 rfl rfl (E.HA.start w0) ?_
  refine E.CW.seq ?_
  refine E.CW.region ?_
  refine E.OW.pure rfl rfl rfl (E.PV.assign rfl rfl) ?_
  refine E.OW.pure rfl rfl rfl (E.PV.assign rfl rfl) ?_
  refine E.OW.nil ?_
  refine E.then_n ?_
  refine E.CW.seq ?_
  refine E.CW.seq ?_
  refine E.CW.region ?_
  refine E.OW.pure rfl rfl rfl (E.PV.move rfl rfl) ?_
  (refine E.OW.call nm117 rfl rfl rfl rfl rfl rfl _ (fun w hw => CheckSlices_ok _ _ _ w ?_ ?_) ?_; (focus (assumption)); (focus (refine hw.rd ?_; assumption)); rintro _ _ ⟨rfl, rfl⟩)
  refine E.OW.pure rfl rfl rfl (E.PV.assign rfl rfl) ?_
  refine E.OW.nil ?_
  refine E.then_n ?_
  refine E.CW.seq ?_
  refine E.CW.region ?_
  refine E.OW.pure rfl rfl rfl (E.PV.move rfl rfl) ?_
  refine E.OW.pure rfl rfl rfl (E.PV.neq rfl rfl rfl) ?_
  refine E.OW.nil ?_
  refine E.then_n ?_
  refine E.CW.cond rfl (fun hc => ?_) (fun hc => ?_)
  · simp only [E.b0, E.b1, E.b2, E.b3, E.b4, E.b5, E.b6, E.b7, E.b8, E.b9, E.b10, E.b11, E.b12, E.b13, E.b14, E.b15, E.b16, E.b17, E.b18, E.b19, E.b20, reduceCtorEq] at hc
    all_goals (
      refine E.CW.seq ?_
      refine E.CW.region ?_
      refine E.OW.pure rfl rfl rfl (E.PV.move rfl rfl) ?_
      refine E.OW.pure rfl rfl rfl (E.PV.assign rfl rfl) ?_
      refine E.OW.pure rfl rfl rfl (E.PV.assign rfl rfl) ?_
      refine E.OW.nil ?_
      refine E.then_n ?_
      refine E.CW.ret ?_
      refine E.then_ret ?_
      refine E.KR.two [] Try.results102 rfl rfl rfl ?_
      exact ⟨by (cases hq : Fl.validS l <;> simp_all [Fl.sliceOwner, Fl.checkS]), rfl⟩)
  · simp only [E.b0, E.b1, E.b2, E.b3, E.b4, E.b5, E.b6, E.b7, E.b8, E.b9, E.b10, E.b11, E.b12, E.b13, E.b14, E.b15, E.b16, E.b17, E.b18, E.b19, E.b20, reduceCtorEq] at hc
    all_goals (
      refine E.CW.skip ?_
      refine E.then_n ?_
      refine E.CW.seq ?_
      have hs : Fl.validS l = true := by cases hq : Fl.validS l <;> simp_all [Fl.checkS]
      have hv := (Fl.validS_iff.1 hs).1
      have hmb := Fl.mod_b (l := l) tick (by omega)
      have hmz := Fl.ent_zero (l := l) (tick := tick) (by omega)
      have hu := (l.getD (tick % (l.length : Int)).toNat 0).toNat_lt
      refine E.CW.region ?_
      refine E.OW.pure rfl rfl rfl (E.PV.move rfl rfl) ?_
      refine E.OW.pure rfl rfl rfl (E.PV.move rfl rfl) ?_
      refine E.OW.pure rfl rfl rfl (E.PV.move rfl rfl) ?_
      refine E.OW.pure rfl rfl rfl (E.PV.len Try.underlying22 rfl rfl) ?_
      refine E.OW.pure rfl rfl rfl (E.PV.conv_in Try.underlying3 Try.underlying26 rfl rfl ?_) ?_; (focus (first | exact E.wrap_u8 _ | (simp only [IntKind.wrap_i64, IntKind.wrap_u64, IntKind.wrap_u8]; omega)))
      refine E.OW.pure rfl rfl rfl (E.PV.rem_i64 rfl rfl rfl ?_ ?_) ?_; (focus (omega)); (focus (omega))
      refine E.OW.pure rfl rfl rfl (E.PV.indexAddr1 (E.rdc hX) Try.underlying22 in5 rfl rfl rfl (E.tn ?_) ?_ ?_) ?_; (focus (omega)); (focus (first | (simp; done) | (simp; omega))); (focus (omega))
      refine E.OW.pure rfl rfl rfl (E.PV.load_u8 (E.rdc hX) na5 rfl rfl ?_) ?_; (focus (omega))
      refine E.OW.pure rfl rfl rfl (E.PV.conv_in Try.underlying5 Try.underlying3 rfl rfl ?_) ?_; (focus (first | exact E.wrap_u8 _ | (simp only [IntKind.wrap_i64, IntKind.wrap_u64, IntKind.wrap_u8]; omega)))
      refine E.OW.pure rfl rfl rfl (E.PV.sub_i64 rfl rfl rfl ?_) ?_; (focus (omega))
      refine E.OW.pure rfl rfl rfl (E.PV.assign rfl rfl) ?_
      refine E.OW.pure rfl rfl rfl (E.PV.assign rfl rfl) ?_
      refine E.OW.nil ?_
      refine E.then_n ?_
      refine E.CW.ret ?_
      refine E.KR.two [] Try.results102 rfl rfl rfl ?_
      exact ⟨by rw [hmz]; simp [Fl.sliceOwner, hs, Fl.sown], rfl⟩)

set_option maxRecDepth 100000 in
theorem IxU_ok (A : Option Addr) (c : Nat) (l : List UInt8) (q : UInt8 → Bool) (f : Nat) (caps : Array Value) (w0 : World) (hn : E.Nm Try.prog f) (hq : ∀ w, E.HA w0 (E.Old w0) [] w → ∀ x : UInt8, Calls Try.prog f (#[.int .u8 (x.toNat : Int)] ++ caps) w (E.Post w (E.Old w) fun v Hn => v = .bool (q x) ∧ Hn = [])) (hl : l.length ≤ 140737488355328) (hX : E.Rd w0 (E.Old w0) A (E.u8s l)) :
    Calls Try.prog 133 #[.slice A l.length c, .func (.func f) #[] caps] w0 (E.Post w0 (E.Old w0) fun v Hn => v = .int .i64 (Fl.idx q l) ∧ Hn = []) := by
  refine E.calls_of (vs := [.slice A l.length c, .func (.func f) #[] caps]) (H := []) Try.func133 Try.ntmps133 rfl rfl (E.HA.start w0) ?_
  refine E.CW.seq ?_
  refine E.CW.region ?_
  refine E.OW.pure rfl rfl rfl (E.PV.assign rfl rfl) ?_
  refine E.OW.nil ?_
  refine E.then_n ?_
  refine E.CW.seq ?_
  refine E.CW.seq ?_
  refine E.CW.region ?_
  refine E.OW.pure rfl rfl rfl (E.PV.move rfl rfl) ?_
  refine E.OW.pure rfl rfl rfl (E.PV.len Try.underlying22 rfl rfl) ?_
  refine E.OW.pure rfl rfl rfl (E.PV.move rfl rfl) ?_
  refine E.OW.nil ?_
  refine E.then_n ?_
  refine E.CW.block ?_
  refine E.CW.loopk [0, 1, 7] 0 rfl rfl (fun mm mods Hm => ∃ k : Nat, mm = l.length - k ∧ mods = [(8, .int .i64 k)] ∧ Hm = [] ∧ (k ≤ l.length ∧ ∀ j, j < k → q (l.getD j 0) = false)) (l.length) ?_ ?_
  · exact ⟨[(8, _)], (by repeat (first | exact E.cov_nil | refine ⟨rfl, ?_⟩)), 0, rfl, rfl, rfl, by omega, fun j hj => by omega⟩
  · rintro _ _ _ ⟨k, rfl, rfl, rfl, hk, hI⟩
    refine E.CW.seq ?_
    refine E.CW.region ?_
    refine E.OW.pure rfl rfl rfl (E.PV.lss rfl rfl rfl) ?_
    refine E.OW.nil ?_
    refine E.then_n ?_
    refine E.CW.seq ?_
    refine E.CW.cond rfl (fun hc => ?_) (fun hc => ?_)
    · simp only [E.b0, E.b1, E.b2, E.b3, E.b4, E.b5, E.b6, E.b7, E.b8, E.b9, E.b10, E.b11, E.b12, E.b13, E.b14, E.b15, E.b16, E.b17, E.b18, E.b19, E.b20, reduceCtorEq] at hc
      all_goals (
        refine E.CW.skip ?_
        refine E.then_n ?_
        refine E.CW.seq ?_
        refine E.CW.block ?_
        refine E.CW.seq ?_
        refine E.CW.region ?_
        refine E.OW.pure rfl rfl rfl (E.PV.move rfl rfl) ?_
        refine E.OW.pure rfl rfl rfl (E.PV.assign rfl rfl) ?_
        refine E.OW.nil ?_
        refine E.then_n ?_
        refine E.CW.seq ?_
        refine E.CW.region ?_
        refine E.OW.pure rfl rfl rfl (E.PV.move rfl rfl) ?_
        refine E.OW.pure rfl rfl rfl (E.PV.move rfl rfl) ?_
        refine E.OW.pure rfl rfl rfl (E.PV.move rfl rfl) ?_
        refine E.OW.pure rfl rfl rfl (E.PV.indexAddr1 (E.rdc hX) Try.underlying22 in5 rfl rfl rfl rfl ?_ ?_) ?_; (focus (first | (simp; done) | (simp; omega))); (focus (omega))
        refine E.OW.pure rfl rfl rfl (E.PV.load_u8 (E.rdc hX) na5 rfl rfl ?_) ?_; (focus (omega))
        refine E.OW.callc hn rfl rfl rfl rfl rfl rfl _ (fun w hw => hq w hw.base _) ?_; rintro _ _ ⟨rfl, rfl⟩
        refine E.OW.nil ?_
        refine E.then_n ?_
        refine E.CW.cond rfl (fun hc => ?_) (fun hc => ?_)
        · skip
          all_goals (
            refine E.CW.seq ?_
            refine E.CW.region ?_
            refine E.OW.pure rfl rfl rfl (E.PV.move rfl rfl) ?_
            refine E.OW.pure rfl rfl rfl (E.PV.assign rfl rfl) ?_
            refine E.OW.nil ?_
            refine E.then_n ?_
            refine E.CW.ret ?_
            refine E.blk_ret ?_
            refine E.then_ret ?_
            refine E.then_ret ?_
            refine E.blk_ret ?_
            refine E.then_ret ?_
            refine E.KR.one [] Try.results133 rfl rfl ?_
            exact ⟨by rw [Fl.idx_some (k := k) (by omega) hI (by assumption)], rfl⟩)
        · skip
          all_goals (
            refine E.CW.skip ?_
            refine E.blk_n ?_
            refine E.then_n ?_
            refine E.CW.region ?_
            refine E.OW.pure rfl rfl rfl (E.PV.add_i64 rfl rfl rfl ?_) ?_; (focus (omega))
            refine E.OW.pure rfl rfl rfl (E.PV.move rfl rfl) ?_
            refine E.OW.nil ?_
            refine E.then_nf ?_
            refine ⟨_, [(8, _)], [], _, ?_, by repeat (first | exact E.cov_nil | refine ⟨rfl, ?_⟩), rfl, k + 1, rfl, rfl, rfl, by omega, fun j hj => by
    rcases Nat.lt_succ_iff_lt_or_eq.1 hj with h | rfl
    · exact hI j h
    · assumption⟩
            omega))
    · simp only [E.b0, E.b1, E.b2, E.b3, E.b4, E.b5, E.b6, E.b7, E.b8, E.b9, E.b10, E.b11, E.b12, E.b13, E.b14, E.b15, E.b16, E.b17, E.b18, E.b19, E.b20, reduceCtorEq] at hc
      all_goals (
        refine E.CW.exit ?_
        refine E.then_x ?_
        refine E.then_x ?_
        refine E.blk_eq ?_
        refine E.then_n ?_
        refine E.CW.seq ?_
        refine E.CW.region ?_
        refine E.OW.pure rfl rfl rfl (E.PV.assign rfl rfl) ?_
        refine E.OW.nil ?_
        refine E.then_n ?_
        refine E.CW.ret ?_
        refine E.KR.one [] Try.results133 rfl rfl ?_
        exact ⟨by rw [Fl.idx_none (fun j hj => hI j (by omega))], rfl⟩)

set_option maxRecDepth 100000 in
theorem CFU_ok (A : Option Addr) (c : Nat) (l : List UInt8) (q : UInt8 → Bool) (f : Nat) (caps : Array Value) (w0 : World) (hn : E.Nm Try.prog f) (hq : ∀ w, E.HA w0 (E.Old w0) [] w → ∀ x : UInt8, Calls Try.prog f (#[.int .u8 (x.toNat : Int)] ++ caps) w (E.Post w (E.Old w) fun v Hn => v = .bool (q x) ∧ Hn = [])) (hl : l.length ≤ 140737488355328) (hX : E.Rd w0 (E.Old w0) A (E.u8s l)) :
    Calls Try.prog 114 #[.slice A l.length c, .func (.func f) #[] caps] w0 (E.Post w0 (E.Old w0) fun v Hn => v = .bool (l.any q) ∧ Hn = []) := by
  refine E.calls_of (vs := [.slice A l.length c, .func (.func f) #[] caps]) (H := []) Try.func114 Try.ntmps114 rfl rfl (E.HA.start w0) ?_
  refine E.CW.seq ?_
  refine E.CW.region ?_
  refine E.OW.pure rfl rfl rfl (E.PV.assign rfl rfl) ?_
  refine E.OW.nil ?_
  refine E.then_n ?_
  refine E.CW.seq ?_
  refine E.CW.region ?_
  refine E.OW.pure rfl rfl rfl (E.PV.move rfl rfl) ?_
  refine E.OW.pure rfl rfl rfl (E.PV.move rfl rfl) ?_
  (refine E.OW.call nm133 rfl rfl rfl rfl rfl rfl _ (fun w hw => IxU_ok _ _ _ q _ caps w hn (fun w2 hw2 => hq w2 (hw2.old hw)) ?_ ?_) ?_; (focus (assumption)); (focus (refine hw.rd ?_; assumption)); rintro _ _ ⟨rfl, rfl⟩)
  refine E.OW.pure rfl rfl rfl (E.PV.geq rfl rfl rfl) ?_
  refine E.OW.pure rfl rfl rfl (E.PV.assign rfl rfl) ?_
  refine E.OW.nil ?_
  refine E.then_n ?_
  refine E.CW.ret ?_
  refine E.KR.one [] Try.results114 rfl rfl ?_
  exact ⟨by rw [Fl.idx_any], rfl⟩

set_option maxRecDepth 100000 in
theorem IxI_ok (A : Option Addr) (c : Nat) (l : List Int) (q : Int → Bool) (f : Nat) (caps : Array Value) (w0 : World) (hn : E.Nm Try.prog f) (hq : ∀ w, E.HA w0 (E.Old w0) [] w → ∀ x : Int, Calls Try.prog f (#[.int .i64 x] ++ caps) w (E.Post w (E.Old w) fun v Hn => v = .bool (q x) ∧ Hn = [])) (hl : l.length ≤ 140737488355328) (hX : E.Rd w0 (E.Old w0) A (E.ints l)) :
    Calls Try.prog 151 #[.slice A l.length c, .func (.func f) #[] caps] w0 (E.Post w0 (E.Old w0) fun v Hn => v = .int .i64 (Cf.idx q l) ∧ Hn = []) := by
  refine E.calls_of (vs := [.slice A l.length c, .func (.func f) #[] caps]) (H := []) Try.func151 Try.ntmps151 rfl rfl (E.HA.start w0) ?_
  refine E.CW.seq ?_
  refine E.CW.region ?_
  refine E.OW.pure rfl rfl rfl (E.PV.assign rfl rfl) ?_
  refine E.OW.nil ?_
  refine E.then_n ?_
  refine E.CW.seq ?_
  refine E.CW.seq ?_
  refine E.CW.region ?_
  refine E.OW.pure rfl rfl rfl (E.PV.move rfl rfl) ?_
  refine E.OW.pure rfl rfl rfl (E.PV.len Try.underlying31 rfl rfl) ?_
  refine E.OW.pure rfl rfl rfl (E.PV.move rfl rfl) ?_
  refine E.OW.nil ?_
  refine E.then_n ?_
  refine E.CW.block ?_
  refine E.CW.loopk [0, 1, 7] 0 rfl rfl (fun mm mods Hm => ∃ k : Nat, mm = l.length - k ∧ mods = [(8, .int .i64 k)] ∧ Hm = [] ∧ (k ≤ l.length ∧ ∀ j, j < k → q (l.getD j 0) = false)) (l.length) ?_ ?_
  · exact ⟨[(8, _)], (by repeat (first | exact E.cov_nil | refine ⟨rfl, ?_⟩)), 0, rfl, rfl, rfl, by omega, fun j hj => by omega⟩
  · rintro _ _ _ ⟨k, rfl, rfl, rfl, hk, hI⟩
    refine E.CW.seq ?_
    refine E.CW.region ?_
    refine E.OW.pure rfl rfl rfl (E.PV.lss rfl rfl rfl) ?_
    refine E.OW.nil ?_
    refine E.then_n ?_
    refine E.CW.seq ?_
    refine E.CW.cond rfl (fun hc => ?_) (fun hc => ?_)
    · simp only [E.b0, E.b1, E.b2, E.b3, E.b4, E.b5, E.b6, E.b7, E.b8, E.b9, E.b10, E.b11, E.b12, E.b13, E.b14, E.b15, E.b16, E.b17, E.b18, E.b19, E.b20, reduceCtorEq] at hc
      all_goals (
        refine E.CW.skip ?_
        refine E.then_n ?_
        refine E.CW.seq ?_
        refine E.CW.block ?_
        refine E.CW.seq ?_
        refine E.CW.region ?_
        refine E.OW.pure rfl rfl rfl (E.PV.move rfl rfl) ?_
        refine E.OW.pure rfl rfl rfl (E.PV.assign rfl rfl) ?_
        refine E.OW.nil ?_
        refine E.then_n ?_
        refine E.CW.seq ?_
        refine E.CW.region ?_
        refine E.OW.pure rfl rfl rfl (E.PV.move rfl rfl) ?_
        refine E.OW.pure rfl rfl rfl (E.PV.move rfl rfl) ?_
        refine E.OW.pure rfl rfl rfl (E.PV.move rfl rfl) ?_
        refine E.OW.pure rfl rfl rfl (E.PV.indexAddr1 (E.rdc hX) Try.underlying31 in3 rfl rfl rfl rfl ?_ ?_) ?_; (focus (first | (simp; done) | (simp; omega))); (focus (omega))
        refine E.OW.pure rfl rfl rfl (E.PV.load_int (E.rdc hX) na3 rfl rfl ?_) ?_; (focus (omega))
        refine E.OW.callc hn rfl rfl rfl rfl rfl rfl _ (fun w hw => hq w hw.base _) ?_; rintro _ _ ⟨rfl, rfl⟩
        refine E.OW.nil ?_
        refine E.then_n ?_
        refine E.CW.cond rfl (fun hc => ?_) (fun hc => ?_)
        · skip
          all_goals (
            refine E.CW.seq ?_
            refine E.CW.region ?_
            refine E.OW.pure rfl rfl rfl (E.PV.move rfl rfl) ?_
            refine E.OW.pure rfl rfl rfl (E.PV.assign rfl rfl) ?_
            refine E.OW.nil ?_
            refine E.then_n ?_
            refine E.CW.ret ?_
            refine E.blk_ret ?_
            refine E.then_ret ?_
            refine E.then_ret ?_
            refine E.blk_ret ?_
            refine E.then_ret ?_
            refine E.KR.one [] Try.results151 rfl rfl ?_
            exact ⟨by rw [Cf.idx_some (k := k) (by omega) hI (by assumption)], rfl⟩)
        · skip
          all_goals (
            refine E.CW.skip ?_
            refine E.blk_n ?_
            refine E.then_n ?_
            refine E.CW.region ?_
            refine E.OW.pure rfl rfl rfl (E.PV.add_i64 rfl rfl rfl ?_) ?_; (focus (omega))
            refine E.OW.pure rfl rfl rfl (E.PV.move rfl rfl) ?_
            refine E.OW.nil ?_
            refine E.then_nf ?_
            refine ⟨_, [(8, _)], [], _, ?_, by repeat (first | exact E.cov_nil | refine ⟨rfl, ?_⟩), rfl, k + 1, rfl, rfl, rfl, by omega, fun j hj => by
    rcases Nat.lt_succ_iff_lt_or_eq.1 hj with h | rfl
    · exact hI j h
    · assumption⟩
            omega))
    · simp only [E.b0, E.b1, E.b2, E.b3, E.b4, E.b5, E.b6, E.b7, E.b8, E.b9, E.b10, E.b11, E.b12, E.b13, E.b14, E.b15, E.b16, E.b17, E.b18, E.b19, E.b20, reduceCtorEq] at hc
      all_goals (
        refine E.CW.exit ?_
        refine E.then_x ?_
        refine E.then_x ?_
        refine E.blk_eq ?_
        refine E.then_n ?_
        refine E.CW.seq ?_
        refine E.CW.region ?_
        refine E.OW.pure rfl rfl rfl (E.PV.assign rfl rfl) ?_
        refine E.OW.nil ?_
        refine E.then_n ?_
        refine E.CW.ret ?_
        refine E.KR.one [] Try.results151 rfl rfl ?_
        exact ⟨by rw [Cf.idx_none (fun j hj => hI j (by omega))], rfl⟩)

set_option maxRecDepth 100000 in
theorem CFI_ok (A : Option Addr) (c : Nat) (l : List Int) (q : Int → Bool) (f : Nat) (caps : Array Value) (w0 : World) (hn : E.Nm Try.prog f) (hq : ∀ w, E.HA w0 (E.Old w0) [] w → ∀ x : Int, Calls Try.prog f (#[.int .i64 x] ++ caps) w (E.Post w (E.Old w) fun v Hn => v = .bool (q x) ∧ Hn = [])) (hl : l.length ≤ 140737488355328) (hX : E.Rd w0 (E.Old w0) A (E.ints l)) :
    Calls Try.prog 139 #[.slice A l.length c, .func (.func f) #[] caps] w0 (E.Post w0 (E.Old w0) fun v Hn => v = .bool (l.any q) ∧ Hn = []) := by
  refine E.calls_of (vs := [.slice A l.length c, .func (.func f) #[] caps]) (H := []) Try.func139 Try.ntmps139 rfl rfl (E.HA.start w0) ?_
  refine E.CW.seq ?_
  refine E.CW.region ?_
  refine E.OW.pure rfl rfl rfl (E.PV.assign rfl rfl) ?_
  refine E.OW.nil ?_
  refine E.then_n ?_
  refine E.CW.seq ?_
  refine E.CW.region ?_
  refine E.OW.pure rfl rfl rfl (E.PV.move rfl rfl) ?_
  refine E.OW.pure rfl rfl rfl (E.PV.move rfl rfl) ?_
  (refine E.OW.call nm151 rfl rfl rfl rfl rfl rfl _ (fun w hw => IxI_ok _ _ _ q _ caps w hn (fun w2 hw2 => hq w2 (hw2.old hw)) ?_ ?_) ?_; (focus (assumption)); (focus (refine hw.rd ?_; assumption)); rintro _ _ ⟨rfl, rfl⟩)
  refine E.OW.pure rfl rfl rfl (E.PV.geq rfl rfl rfl) ?_
  refine E.OW.pure rfl rfl rfl (E.PV.assign rfl rfl) ?_
  refine E.OW.nil ?_
  refine E.then_n ?_
  refine E.CW.ret ?_
  refine E.KR.one [] Try.results139 rfl rfl ?_
  exact ⟨by rw [Cf.idx_any], rfl⟩

set_option maxRecDepth 100000 in
theorem odd_ok (x : UInt8) (w0 : World) :
    Calls Try.prog 111 #[.int .u8 (x.toNat : Int)] w0 (E.Post w0 (E.Old w0) fun v Hn => v = .bool (!Fl.okc x) ∧ Hn = []) := by
  have hu := x.toNat_lt
  refine E.calls_of (vs := [.int .u8 (x.toNat : Int)]) (H := []) Try.func111 Try.ntmps111 rfl rfl (E.HA.start w0) ?_
  refine E.CW.seq ?_
  refine E.CW.region ?_
  refine E.OW.pure rfl rfl rfl (E.PV.assign rfl rfl) ?_
  refine E.OW.nil ?_
  refine E.then_n ?_
  refine E.CW.seq ?_
  refine E.CW.region ?_
  refine E.OW.pure rfl rfl rfl (E.PV.move rfl rfl) ?_
  refine E.OW.pure rfl rfl rfl (E.PV.gtr rfl rfl rfl) ?_
  refine E.OW.pure rfl rfl rfl (E.PV.move rfl rfl) ?_
  all_goals (refine E.OW.split 5 rfl (fun hc => ?_) (fun hc => ?_) <;> (try simp only [E.b0, E.b1, E.b2, E.b3, E.b4, E.b5, E.b6, E.b7, E.b8, E.b9, E.b10, E.b11, E.b12, E.b13, E.b14, E.b15, E.b16, E.b17, E.b18, E.b19, E.b20, reduceCtorEq] at hc) <;> (try (exfalso; first | assumption | contradiction | omega)))
  all_goals (first | (refine E.OW.off rfl rfl rfl ?_) | (refine E.OW.pure rfl rfl rfl (E.PV.move rfl rfl) ?_))
  all_goals (first | (refine E.OW.off rfl rfl rfl ?_) | (refine E.OW.pure rfl rfl rfl (E.PV.neq rfl rfl rfl) ?_))
  all_goals (first | (refine E.OW.pure rfl rfl rfl (E.PV.pick_t rfl rfl rfl) ?_) | (refine E.OW.pure rfl rfl rfl (E.PV.pick_f rfl rfl rfl) ?_))
  all_goals (refine E.OW.pure rfl rfl rfl (E.PV.assign rfl rfl) ?_)
  all_goals (
    refine E.OW.nil ?_
    refine E.then_n ?_
    refine E.CW.ret ?_
    refine E.KR.one [] Try.results111 rfl rfl ?_
    exact ⟨by rw [Fl.okc_i]; simp [*] <;> omega, rfl⟩)

set_option maxRecDepth 100000 in
theorem boardOf_ok (a b : Int) (A : Option Addr) (c : Nat) (l : List UInt8) (w0 : World) :
    Calls Try.prog 83 #[.agg #[.int .i64 a, .int .i64 b, .slice A l.length c]] w0 (E.Post w0 (E.Old w0) fun v Hn => v = .agg #[.int .i64 a, .int .i64 b, .slice A l.length c] ∧ Hn = []) := by
  refine E.calls_of (vs := [.agg #[.int .i64 a, .int .i64 b, .slice A l.length c]]) (H := []) Try.func83 Try.ntmps83 rfl rfl (E.HA.start w0) ?_
  refine E.CW.seq ?_
  refine E.CW.region ?_
  refine E.OW.box rfl rfl rfl rfl rfl rfl (fun B1 => ?_)
  refine E.OW.alloc (in116.zr) rfl rfl rfl rfl rfl (fun B2 => ?_)
  refine E.OW.nil ?_
  refine E.then_n ?_
  refine E.CW.seq ?_
  refine E.CW.region ?_
  refine E.OW.pure rfl rfl rfl (E.PV.fieldAddr fa24_0 rfl rfl) ?_
  refine E.OW.pure rfl rfl rfl (E.PV.load (i := 1) na3 rfl rfl rfl rfl) ?_
  refine E.OW.pure rfl rfl rfl (E.PV.fieldAddr fa24_1 rfl rfl) ?_
  refine E.OW.pure rfl rfl rfl (E.PV.load (i := 1) na3 rfl rfl rfl rfl) ?_
  refine E.OW.pure rfl rfl rfl (E.PV.build (ps := [(0, .tmp 4), (1, .tmp 6)]) rfl rfl (fun w => bld114_0_1 _ _ w)) ?_
  refine E.OW.pure rfl rfl rfl (E.PV.fieldAddr fa24_2 rfl rfl) ?_
  refine E.OW.pure rfl rfl rfl (E.PV.load (i := 1) na22 rfl rfl rfl rfl) ?_
  refine E.OW.pure rfl rfl rfl (E.PV.build (ps := [(0, .tmp 7), (1, .tmp 9)]) rfl rfl (fun w => bld116_0_1 _ _ _ _ _ w)) ?_
  refine E.OW.store (i := 0) in116.size rfl rfl rfl rfl rfl rfl rfl rfl rfl ?_
  refine E.OW.nil ?_
  refine E.then_n ?_
  refine E.CW.ret ?_
  refine E.KR.rv1 [] Try.results83 (E.rv.cell is116 rfl (E.sli 0 rfl) rfl) rfl ?_
  exact ⟨rfl, rfl⟩

set_option maxRecDepth 100000 in
theorem bcheck_ok (a b : Int) (A : Option Addr) (c : Nat) (l : List UInt8) (w0 : World) (hl : l.length ≤ 140737488355328) (hX : E.Rd w0 (E.Old w0) A (E.u8s l)) :
    Calls Try.prog 84 #[.agg #[.int .i64 a, .int .i64 b, .slice A l.length c]] w0 (E.Post w0 (E.Old w0) fun v Hn => v = .int .i64 (Fl.checkF a b l) ∧ Hn = []) := by
  refine E.calls_of (vs := [.agg #[.int .i64 a, .int .i64 b, .slice A l.length c]]) (H := []) Try.func84 Try.ntmps84 rfl rfl (E.HA.start w0) ?_
  refine E.CW.seq ?_
  refine E.CW.region ?_
  refine E.OW.box rfl rfl rfl rfl rfl rfl (fun B1 => ?_)
  refine E.OW.pure rfl rfl rfl (E.PV.assign rfl rfl) ?_
  refine E.OW.nil ?_
  refine E.then_n ?_
  refine E.CW.seq ?_
  refine E.CW.region ?_
  refine E.OW.pure rfl rfl rfl (E.PV.assign rfl rfl) ?_
  refine E.OW.nil ?_
  refine E.then_n ?_
  refine E.CW.seq ?_
  refine E.CW.seq ?_
  refine E.CW.draw mixed (by kernel_rfl) ?_
  refine E.QW.pure rfl rfl rfl (E.PV.fieldAddr fa116_0 rfl rfl) ?_
  refine E.QW.pure rfl rfl rfl (E.PV.loads (i := 0) is114 rfl rfl rfl rfl) ?_
  (refine E.QW.call nm112 rfl rfl rfl rfl rfl rfl _ (fun w hw => E.Post.val (valid_ok _ _ w)) ?_)
  refine E.QW.pure rfl rfl rfl (E.PV.not rfl rfl) ?_
  refine E.QW.pure rfl rfl rfl (E.PV.move rfl rfl) ?_
  all_goals (refine E.QW.split 8 rfl (fun hc => ?_) (fun hc => ?_) <;> (try simp only [E.b0, E.b1, E.b2, E.b3, E.b4, E.b5, E.b6, E.b7, E.b8, E.b9, E.b10, E.b11, E.b12, E.b13, E.b14, E.b15, E.b16, E.b17, E.b18, E.b19, E.b20, reduceCtorEq] at hc) <;> (try (exfalso; first | assumption | contradiction | omega)))
  all_goals (first | (refine E.QW.off rfl rfl rfl ?_) | (refine E.QW.pure rfl rfl rfl (E.PV.fieldAddr fa116_1 rfl rfl) ?_))
  all_goals (first | (refine E.QW.off rfl rfl rfl ?_) | (refine E.QW.pure rfl rfl rfl (E.PV.load (i := 0) na22 rfl rfl rfl rfl) ?_))
  all_goals (first | (refine E.QW.off rfl rfl rfl ?_) | (refine E.QW.pure rfl rfl rfl (E.PV.len Try.underlying22 rfl rfl) ?_))
  all_goals (first | (refine E.QW.off rfl rfl rfl ?_) | (refine E.QW.pure rfl rfl rfl (E.PV.fieldAddr fa116_0 rfl rfl) ?_))
  all_goals (first | (refine E.QW.off rfl rfl rfl ?_) | (refine E.QW.pure rfl rfl rfl (E.PV.loads (i := 0) is114 rfl rfl rfl rfl) ?_))
  all_goals (first | (refine E.QW.off rfl rfl rfl ?_) | ((refine E.QW.call nm113 rfl rfl rfl rfl rfl rfl _ (fun w hw => E.Post.val (size_ok _ _ (Fl.valid_iff.1 (by assumption)) w)) ?_)))
  all_goals (first | (refine E.QW.off rfl rfl rfl ?_) | (refine E.QW.pure rfl rfl rfl (E.PV.neq rfl rfl rfl) ?_))
  all_goals (first | (refine E.QW.pure rfl rfl rfl (E.PV.pick_t rfl rfl rfl) ?_) | (refine E.QW.pure rfl rfl rfl (E.PV.pick_f rfl rfl rfl) ?_))
  all_goals (refine E.QW.pure rfl rfl rfl (E.PV.move rfl rfl) ?_)
  all_goals (first | (refine E.QW.put 17 (.bool true) (v := .bool true) rfl rfl ?_) | (refine E.QW.split 17 rfl (fun hc => ?_) (fun hc => ?_) <;> (try simp only [E.b0, E.b1, E.b2, E.b3, E.b4, E.b5, E.b6, E.b7, E.b8, E.b9, E.b10, E.b11, E.b12, E.b13, E.b14, E.b15, E.b16, E.b17, E.b18, E.b19, E.b20, reduceCtorEq] at hc) <;> (try (exfalso; first | assumption | contradiction | omega))))
  all_goals (first | (refine E.QW.off rfl rfl rfl ?_) | (refine E.QW.pure rfl rfl rfl (E.PV.fieldAddr fa116_1 rfl rfl) ?_))
  all_goals (first | (refine E.QW.off rfl rfl rfl ?_) | (refine E.QW.pure rfl rfl rfl (E.PV.load (i := 0) na22 rfl rfl rfl rfl) ?_))
  all_goals (first | (refine E.QW.off rfl rfl rfl ?_) | (refine E.QW.pure rfl rfl rfl (E.PV.move rfl rfl) ?_))
  all_goals (first | (refine E.QW.off rfl rfl rfl ?_) | ((refine E.QW.call nm114 rfl rfl rfl rfl rfl rfl _ (fun w hw => E.Post.val (CFU_ok _ _ _ (fun x => !Fl.okc x) 111 #[] w nm111 (fun w2 _ x => by simpa using odd_ok x w2) ?_ ?_)) ?_; (focus (assumption)); (focus (refine hw.rd ?_; assumption)))))
  all_goals (first | (refine E.QW.pure rfl rfl rfl (E.PV.pick_t rfl rfl rfl) ?_) | (refine E.QW.pure rfl rfl rfl (E.PV.pick_f rfl rfl rfl) ?_))
  all_goals (
    refine E.QW.nil ?_
    refine E.then_n ?_
    refine E.CW.cond rfl (fun hc => ?_) (fun hc => ?_)
    · first | (simp only [E.b0, E.b1, E.b2, E.b3, E.b4, E.b5, E.b6, E.b7, E.b8, E.b9, E.b10, E.b11, E.b12, E.b13, E.b14, E.b15, E.b16, E.b17, E.b18, E.b19, E.b20, reduceCtorEq] at hc) | (skip)
      all_goals (
        refine E.CW.seq ?_
        refine E.CW.region ?_
        refine E.OW.pure rfl rfl rfl (E.PV.assign rfl rfl) ?_
        refine E.OW.nil ?_
        refine E.then_n ?_
        refine E.CW.ret ?_
        refine E.then_ret ?_
        refine E.KR.one [] Try.results84 rfl rfl ?_
        exact ⟨by simp_all [Fl.checkF, Fl.validF, Fl.any_odd], rfl⟩)
    · first | ((cases hc; done)) | (skip)
      all_goals (
        refine E.CW.skip ?_
        refine E.then_n ?_
        refine E.CW.seq ?_
        refine E.CW.region ?_
        refine E.OW.pure rfl rfl rfl (E.PV.assign rfl rfl) ?_
        refine E.OW.nil ?_
        refine E.then_n ?_
        refine E.CW.ret ?_
        refine E.KR.one [] Try.results84 rfl rfl ?_
        exact ⟨by simp_all [Fl.checkF, Fl.validF, Fl.any_odd], rfl⟩))

set_option maxRecDepth 100000 in
theorem Check_ok (a b : Int) (A : Option Addr) (c : Nat) (l : List UInt8) (w0 : World) (hl : l.length ≤ 140737488355328) (hX : E.Rd w0 (E.Old w0) A (E.u8s l)) :
    Calls Try.prog 116 #[.agg #[.int .i64 a, .int .i64 b, .slice A l.length c]] w0 (E.Post w0 (E.Old w0) fun v Hn => v = .int .i64 (Fl.checkF a b l) ∧ Hn = []) := by
  refine E.calls_of (vs := [.agg #[.int .i64 a, .int .i64 b, .slice A l.length c]]) (H := []) Try.func116 Try.ntmps116 rfl rfl (E.HA.start w0) ?_
  refine E.CW.seq ?_
  refine E.CW.region ?_
  refine E.OW.box rfl rfl rfl rfl rfl rfl (fun B1 => ?_)
  refine E.OW.pure rfl rfl rfl (E.PV.assign rfl rfl) ?_
  refine E.OW.nil ?_
  refine E.then_n ?_
  refine E.CW.seq ?_
  refine E.CW.region ?_
  refine E.OW.pure rfl rfl rfl (E.PV.loads (i := 0) is24 rfl rfl rfl rfl) ?_
  (refine E.OW.call nm83 rfl rfl rfl rfl rfl rfl _ (fun w hw => boardOf_ok _ _ _ _ _ w) ?_; rintro _ _ ⟨rfl, rfl⟩)
  (refine E.OW.call nm84 rfl rfl rfl rfl rfl rfl _ (fun w hw => bcheck_ok _ _ _ _ _ w ?_ ?_) ?_; (focus (assumption)); (focus (refine hw.rd ?_; assumption)); rintro _ _ ⟨rfl, rfl⟩)
  refine E.OW.pure rfl rfl rfl (E.PV.assign rfl rfl) ?_
  refine E.OW.nil ?_
  refine E.then_n ?_
  refine E.CW.ret ?_
  refine E.KR.one [] Try.results116 rfl rfl ?_
  exact ⟨rfl, rfl⟩

set_option maxRecDepth 100000 in
theorem bowner_ok (a b : Int) (A : Option Addr) (c : Nat) (l : List UInt8) (p : Int) (w0 : World) (hp : 0 ≤ p ∧ p < l.length) (hX : E.Rd w0 (E.Old w0) A (E.u8s l)) :
    Calls Try.prog 86 #[.agg #[.int .i64 a, .int .i64 b, .slice A l.length c], .int .i64 p] w0 (E.Post w0 (E.Old w0) fun v Hn => v = .int .i64 (Fl.ownerC (l.getD p.toNat 0)) ∧ Hn = []) := by
  have hu := (l.getD p.toNat 0).toNat_lt
  refine E.calls_of (vs := [.agg #[.int .i64 a, .int .i64 b, .slice A l.length c], .int .i64 p]) (H := []) Try.func86 Try.ntmps86 rfl rfl (E.HA.start w0) ?_
  refine E.CW.seq ?_
  refine E.CW.region ?_
  refine E.OW.box rfl rfl rfl rfl rfl rfl (fun B1 => ?_)
  refine E.OW.pure rfl rfl rfl (E.PV.assign rfl rfl) ?_
  refine E.OW.nil ?_
  refine E.then_n ?_
  refine E.CW.seq ?_
  refine E.CW.region ?_
  refine E.OW.pure rfl rfl rfl (E.PV.fieldAddr fa116_1 rfl rfl) ?_
  refine E.OW.pure rfl rfl rfl (E.PV.load (i := 0) na22 rfl rfl rfl rfl) ?_
  refine E.OW.pure rfl rfl rfl (E.PV.move rfl rfl) ?_
  refine E.OW.pure rfl rfl rfl (E.PV.indexAddr1 (E.rdc hX) Try.underlying22 in5 rfl rfl rfl (E.tn ?_) ?_ ?_) ?_; (focus (omega)); (focus (first | (simp; done) | (simp; omega))); (focus (omega))
  refine E.OW.pure rfl rfl rfl (E.PV.load_u8 (E.rdc hX) na5 rfl rfl ?_) ?_; (focus (omega))
  refine E.OW.pure rfl rfl rfl (E.PV.assign rfl rfl) ?_
  refine E.OW.nil ?_
  refine E.then_n ?_
  refine E.CW.seq ?_
  refine E.CW.region ?_
  refine E.OW.pure rfl rfl rfl (E.PV.move rfl rfl) ?_
  refine E.OW.nil ?_
  refine E.then_n ?_
  refine E.CW.block ?_
  refine E.CW.seq ?_
  refine E.CW.region ?_
  refine E.OW.pure rfl rfl rfl (E.PV.eql rfl rfl rfl) ?_
  refine E.OW.pure rfl rfl rfl (E.PV.assign rfl rfl) ?_
  refine E.OW.nil ?_
  refine E.then_n ?_
  refine E.CW.cond rfl (fun hc => ?_) (fun hc => ?_)
  · simp only [E.b0, E.b1, E.b2, E.b3, E.b4, E.b5, E.b6, E.b7, E.b8, E.b9, E.b10, E.b11, E.b12, E.b13, E.b14, E.b15, E.b16, E.b17, E.b18, E.b19, E.b20, reduceCtorEq] at hc
    all_goals (
      refine E.CW.seq ?_
      refine E.CW.region ?_
      refine E.OW.pure rfl rfl rfl (E.PV.assign rfl rfl) ?_
      refine E.OW.nil ?_
      refine E.then_n ?_
      refine E.CW.ret ?_
      refine E.blk_ret ?_
      refine E.KR.one [] Try.results86 rfl rfl ?_
      exact ⟨by (unfold Fl.ownerC; first | (rw [if_pos (by omega)]; done) | (rw [if_neg (by omega), if_pos (by omega)]; done) | (rw [if_neg (by omega), if_neg (by omega)]; done)), rfl⟩)
  · simp only [E.b0, E.b1, E.b2, E.b3, E.b4, E.b5, E.b6, E.b7, E.b8, E.b9, E.b10, E.b11, E.b12, E.b13, E.b14, E.b15, E.b16, E.b17, E.b18, E.b19, E.b20, reduceCtorEq] at hc
    all_goals (
      refine E.CW.seq ?_
      refine E.CW.region ?_
      refine E.OW.pure rfl rfl rfl (E.PV.eql rfl rfl rfl) ?_
      refine E.OW.pure rfl rfl rfl (E.PV.assign rfl rfl) ?_
      refine E.OW.nil ?_
      refine E.then_n ?_
      refine E.CW.cond rfl (fun hc => ?_) (fun hc => ?_)
      · simp only [E.b0, E.b1, E.b2, E.b3, E.b4, E.b5, E.b6, E.b7, E.b8, E.b9, E.b10, E.b11, E.b12, E.b13, E.b14, E.b15, E.b16, E.b17, E.b18, E.b19, E.b20, reduceCtorEq] at hc
        all_goals (
          refine E.CW.seq ?_
          refine E.CW.region ?_
          refine E.OW.pure rfl rfl rfl (E.PV.assign rfl rfl) ?_
          refine E.OW.nil ?_
          refine E.then_n ?_
          refine E.CW.ret ?_
          refine E.blk_ret ?_
          refine E.KR.one [] Try.results86 rfl rfl ?_
          exact ⟨by (unfold Fl.ownerC; first | (rw [if_pos (by omega)]; done) | (rw [if_neg (by omega), if_pos (by omega)]; done) | (rw [if_neg (by omega), if_neg (by omega)]; done)), rfl⟩)
      · simp only [E.b0, E.b1, E.b2, E.b3, E.b4, E.b5, E.b6, E.b7, E.b8, E.b9, E.b10, E.b11, E.b12, E.b13, E.b14, E.b15, E.b16, E.b17, E.b18, E.b19, E.b20, reduceCtorEq] at hc
        all_goals (
          refine E.CW.seq ?_
          refine E.CW.region ?_
          refine E.OW.pure rfl rfl rfl (E.PV.move rfl rfl) ?_
          refine E.OW.pure rfl rfl rfl (E.PV.conv_in Try.underlying5 Try.underlying3 rfl rfl ?_) ?_; (focus (first | exact E.wrap_u8 _ | (simp only [IntKind.wrap_i64, IntKind.wrap_u64, IntKind.wrap_u8]; omega)))
          refine E.OW.pure rfl rfl rfl (E.PV.sub_i64 rfl rfl rfl ?_) ?_; (focus (omega))
          refine E.OW.pure rfl rfl rfl (E.PV.assign rfl rfl) ?_
          refine E.OW.nil ?_
          refine E.then_n ?_
          refine E.CW.ret ?_
          refine E.blk_ret ?_
          refine E.KR.one [] Try.results86 rfl rfl ?_
          exact ⟨by (unfold Fl.ownerC; first | (rw [if_pos (by omega)]; done) | (rw [if_neg (by omega), if_pos (by omega)]; done) | (rw [if_neg (by omega), if_neg (by omega)]; done)), rfl⟩))

set_option maxRecDepth 100000 in
theorem bof_ok (a b : Int) (A : Option Addr) (c : Nat) (l : List UInt8) (t : Int) (w0 : World) (h64 : l.length ≤ 64) (hX : E.Rd w0 (E.Old w0) A (E.u8s l)) :
    Calls Try.prog 149 #[.agg #[.int .i64 a, .int .i64 b, .slice A l.length c], .int .i64 t] w0 (E.Post w0 (E.Old w0) fun v Hn => ∃ A2 c2, v = .slice A2 (Fl.places (fun x => decide (Fl.ownerC x = t)) l l.length).length c2 ∧ Hn = [E.HP.row 3 1 A2 (Fl.places (fun x => decide (Fl.ownerC x = t)) l l.length).length c2 (E.ints (Fl.places (fun x => decide (Fl.ownerC x = t)) l l.length))]) := by
  refine E.calls_of (vs := [.agg #[.int .i64 a, .int .i64 b, .slice A l.length c], .int .i64 t]) (H := []) Try.func149 Try.ntmps149 rfl rfl (E.HA.start w0) ?_
  refine E.CW.seq ?_
  refine E.CW.region ?_
  refine E.OW.box rfl rfl rfl rfl rfl rfl (fun B1 => ?_)
  refine E.OW.pure rfl rfl rfl (E.PV.assign rfl rfl) ?_
  refine E.OW.nil ?_
  refine E.then_n ?_
  refine E.CW.seq ?_
  refine E.CW.nilrow 3 1 ?_
  refine E.CW.region ?_
  refine E.OW.pure rfl rfl rfl (E.PV.assign rfl rfl) ?_
  refine E.OW.nil ?_
  refine E.then_n ?_
  refine E.CW.seq ?_
  refine E.CW.seq ?_
  refine E.CW.region ?_
  refine E.OW.pure rfl rfl rfl (E.PV.fieldAddr fa116_1 rfl rfl) ?_
  refine E.OW.pure rfl rfl rfl (E.PV.load (i := 1) na22 rfl rfl rfl rfl) ?_
  refine E.OW.pure rfl rfl rfl (E.PV.len Try.underlying22 rfl rfl) ?_
  refine E.OW.pure rfl rfl rfl (E.PV.move rfl rfl) ?_
  refine E.OW.nil ?_
  refine E.then_n ?_
  refine E.CW.block ?_
  refine E.CW.loopk [1, 2, 9] 1 rfl rfl (fun mm mods Hm => ∃ k : Nat, ∃ D : Option Addr, ∃ e : Nat, mm = l.length - k ∧ mods = [(10, .int .i64 k), (5, .slice D (Fl.places (fun x => decide (Fl.ownerC x = t)) l k).length e)] ∧ Hm = [E.HP.row 3 1 D (Fl.places (fun x => decide (Fl.ownerC x = t)) l k).length e (E.ints (Fl.places (fun x => decide (Fl.ownerC x = t)) l k))] ∧ k ≤ l.length) (l.length) ?_ ?_
  · exact ⟨[(10, _), (5, _)], (by repeat (first | exact E.cov_nil | refine ⟨rfl, ?_⟩)), 0, none, 0, rfl, rfl, rfl, by omega⟩
  · rintro _ _ _ ⟨k, D, e, rfl, rfl, rfl, hk⟩
    have hpl := Fl.places_len (fun x => decide (Fl.ownerC x = t)) l k
    refine E.CW.seq ?_
    refine E.CW.region ?_
    refine E.OW.pure rfl rfl rfl (E.PV.lss rfl rfl rfl) ?_
    refine E.OW.nil ?_
    refine E.then_n ?_
    refine E.CW.seq ?_
    refine E.CW.cond rfl (fun hc => ?_) (fun hc => ?_)
    · simp only [E.b0, E.b1, E.b2, E.b3, E.b4, E.b5, E.b6, E.b7, E.b8, E.b9, E.b10, E.b11, E.b12, E.b13, E.b14, E.b15, E.b16, E.b17, E.b18, E.b19, E.b20, reduceCtorEq] at hc
      all_goals (
        refine E.CW.skip ?_
        refine E.then_n ?_
        refine E.CW.seq ?_
        refine E.CW.block ?_
        refine E.CW.seq ?_
        refine E.CW.region ?_
        refine E.OW.pure rfl rfl rfl (E.PV.move rfl rfl) ?_
        refine E.OW.pure rfl rfl rfl (E.PV.assign rfl rfl) ?_
        refine E.OW.nil ?_
        refine E.then_n ?_
        refine E.CW.seq ?_
        refine E.CW.region ?_
        refine E.OW.pure rfl rfl rfl (E.PV.loads (i := 1) is116 rfl rfl rfl rfl) ?_
        refine E.OW.pure rfl rfl rfl (E.PV.move rfl rfl) ?_
        (refine E.OW.call nm86 rfl rfl rfl rfl rfl rfl _ (fun w hw => bowner_ok _ _ _ _ _ _ w ?_ ?_) ?_; (focus (omega)); (focus (refine hw.rd ?_; assumption)); rintro _ _ ⟨rfl, rfl⟩)
        refine E.OW.pure rfl rfl rfl (E.PV.move rfl rfl) ?_
        refine E.OW.pure rfl rfl rfl (E.PV.eql rfl rfl rfl) ?_
        refine E.OW.nil ?_
        refine E.then_n ?_
        refine E.CW.cond rfl (fun hc => ?_) (fun hc => ?_)
        · simp only [E.b0, E.b1, E.b2, E.b3, E.b4, E.b5, E.b6, E.b7, E.b8, E.b9, E.b10, E.b11, E.b12, E.b13, E.b14, E.b15, E.b16, E.b17, E.b18, E.b19, E.b20, reduceCtorEq] at hc
          all_goals (
            refine E.CW.region ?_
            refine E.OW.pure rfl rfl rfl (E.PV.move rfl rfl) ?_
            refine E.OW.pure rfl rfl rfl (E.PV.move rfl rfl) ?_
            refine E.OW.buildSlice (Et := 3) (sz := 1) (ps := [(0, .tmp 19)]) rfl rfl rfl rfl rfl (by simp) (by unfold maxLen; omega) (fun w => bsl31_1_0 _ w) (fun A2 => ?_)
            refine E.OW.app_int1 (j := 0) (i := 0) Try.underlying31 in3 rfl rfl rfl rfl rfl rfl rfl rfl rfl rfl ?_ (fun A3 c3 => ?_); (focus ((first | omega | (simp only [List.length_append, List.length_cons, List.length_nil] at *; omega) | (unfold maxLen at *; omega))))
            refine E.OW.pure rfl rfl rfl (E.PV.assign rfl rfl) ?_
            refine E.OW.nil ?_
            refine E.blk_n ?_
            refine E.then_n ?_
            refine E.CW.region ?_
            refine E.OW.pure rfl rfl rfl (E.PV.add_i64 rfl rfl rfl ?_) ?_; (focus (omega))
            refine E.OW.pure rfl rfl rfl (E.PV.move rfl rfl) ?_
            refine E.OW.nil ?_
            refine E.then_nf ?_
            refine ⟨_, [(10, _), (5, _)], [0, 0], _, ?_, by repeat (first | exact E.cov_nil | refine ⟨rfl, ?_⟩), rfl, k + 1, A3, c3, rfl, by rw [Fl.places_yes (by simpa using hc)]; rfl, by rw [Fl.places_yes (by simpa using hc)], by omega⟩
            omega)
        · simp only [E.b0, E.b1, E.b2, E.b3, E.b4, E.b5, E.b6, E.b7, E.b8, E.b9, E.b10, E.b11, E.b12, E.b13, E.b14, E.b15, E.b16, E.b17, E.b18, E.b19, E.b20, reduceCtorEq] at hc
          all_goals (
            refine E.CW.skip ?_
            refine E.blk_n ?_
            refine E.then_n ?_
            refine E.CW.region ?_
            refine E.OW.pure rfl rfl rfl (E.PV.add_i64 rfl rfl rfl ?_) ?_; (focus (omega))
            refine E.OW.pure rfl rfl rfl (E.PV.move rfl rfl) ?_
            refine E.OW.nil ?_
            refine E.then_nf ?_
            refine ⟨_, [(10, _), (5, _)], [0, 0], _, ?_, by repeat (first | exact E.cov_nil | refine ⟨rfl, ?_⟩), rfl, k + 1, D, e, rfl, by rw [Fl.places_no (by simpa using hc)]; rfl, by rw [Fl.places_no (by simpa using hc)], by omega⟩
            omega))
    · simp only [E.b0, E.b1, E.b2, E.b3, E.b4, E.b5, E.b6, E.b7, E.b8, E.b9, E.b10, E.b11, E.b12, E.b13, E.b14, E.b15, E.b16, E.b17, E.b18, E.b19, E.b20, reduceCtorEq] at hc
      all_goals (
        refine E.CW.exit ?_
        refine E.then_x ?_
        refine E.then_x ?_
        refine E.blk_eq ?_
        refine E.then_n ?_
        refine E.CW.seq ?_
        refine E.CW.region ?_
        refine E.OW.pure rfl rfl rfl (E.PV.move rfl rfl) ?_
        refine E.OW.pure rfl rfl rfl (E.PV.assign rfl rfl) ?_
        refine E.OW.nil ?_
        refine E.then_n ?_
        refine E.CW.ret ?_
        refine E.KR.one [0] Try.results149 rfl rfl ?_
        obtain rfl : k = l.length := by omega
        exact ⟨_, _, rfl, rfl⟩)

set_option maxRecDepth 100000 in
theorem Owner_ok (a b : Int) (A : Option Addr) (c : Nat) (l : List UInt8) (p : Int) (w0 : World) (hl : l.length ≤ 140737488355328) (hX : E.Rd w0 (E.Old w0) A (E.u8s l)) :
    Calls Try.prog 41 #[.agg #[.int .i64 a, .int .i64 b, .slice A l.length c], .int .i64 p] w0 (E.Post w0 (E.Old w0) fun v Hn => v = .tuple #[.int .i64 (Fl.owner a b l p).1, .int .i64 (Fl.owner a b l p).2] ∧ Hn = []) := by
  refine E.calls_of (vs := [.agg #[.int .i64 a, .int .i64 b, .slice A l.length c], .int .i64 p]) (H := []) Try.func41 Try.ntmps41 rfl rfl (E.HA.start w0) ?_
  refine E.CW.seq ?_
  refine E.CW.region ?_
  refine E.OW.box rfl rfl rfl rfl rfl rfl (fun B1 => ?_)
  refine E.OW.pure rfl rfl rfl (E.PV.assign rfl rfl) ?_
  refine E.OW.pure rfl rfl rfl (E.PV.assign rfl rfl) ?_
  refine E.OW.nil ?_
  refine E.then_n ?_
  refine E.CW.seq ?_
  refine E.CW.region ?_
  refine E.OW.pure rfl rfl rfl (E.PV.loads (i := 0) is24 rfl rfl rfl rfl) ?_
  (refine E.OW.call nm83 rfl rfl rfl rfl rfl rfl _ (fun w hw => boardOf_ok _ _ _ _ _ w) ?_; rintro _ _ ⟨rfl, rfl⟩)
  refine E.OW.alloc (in116.zr) rfl rfl rfl rfl rfl (fun B2 => ?_)
  refine E.OW.store (i := 0) in116.size rfl rfl rfl rfl rfl rfl rfl rfl rfl ?_
  refine E.OW.nil ?_
  refine E.then_n ?_
  refine E.CW.seq ?_
  refine E.CW.seq ?_
  refine E.CW.region ?_
  refine E.OW.pure rfl rfl rfl (E.PV.loads (i := 0) is116 rfl rfl rfl rfl) ?_
  (refine E.OW.call nm84 rfl rfl rfl rfl rfl rfl _ (fun w hw => bcheck_ok _ _ _ _ _ w ?_ ?_) ?_; (focus (assumption)); (focus (refine hw.rd ?_; assumption)); rintro _ _ ⟨rfl, rfl⟩)
  refine E.OW.pure rfl rfl rfl (E.PV.assign rfl rfl) ?_
  refine E.OW.nil ?_
  refine E.then_n ?_
  refine E.CW.seq ?_
  refine E.CW.region ?_
  refine E.OW.pure rfl rfl rfl (E.PV.move rfl rfl) ?_
  refine E.OW.pure rfl rfl rfl (E.PV.neq rfl rfl rfl) ?_
  refine E.OW.nil ?_
  refine E.then_n ?_
  refine E.CW.cond rfl (fun hc => ?_) (fun hc => ?_)
  · simp only [E.b0, E.b1, E.b2, E.b3, E.b4, E.b5, E.b6, E.b7, E.b8, E.b9, E.b10, E.b11, E.b12, E.b13, E.b14, E.b15, E.b16, E.b17, E.b18, E.b19, E.b20, reduceCtorEq] at hc
    all_goals (
      refine E.CW.seq ?_
      refine E.CW.region ?_
      refine E.OW.pure rfl rfl rfl (E.PV.move rfl rfl) ?_
      refine E.OW.pure rfl rfl rfl (E.PV.assign rfl rfl) ?_
      refine E.OW.pure rfl rfl rfl (E.PV.assign rfl rfl) ?_
      refine E.OW.nil ?_
      refine E.then_n ?_
      refine E.CW.ret ?_
      refine E.then_ret ?_
      refine E.KR.two [] Try.results41 rfl rfl rfl ?_
      exact ⟨by (cases hq : Fl.validF a b l <;> simp_all [Fl.owner, Fl.checkF]), rfl⟩)
  · simp only [E.b0, E.b1, E.b2, E.b3, E.b4, E.b5, E.b6, E.b7, E.b8, E.b9, E.b10, E.b11, E.b12, E.b13, E.b14, E.b15, E.b16, E.b17, E.b18, E.b19, E.b20, reduceCtorEq] at hc
    all_goals (
      refine E.CW.skip ?_
      refine E.then_n ?_
      refine E.CW.seq ?_
      refine E.CW.seq ?_
      refine E.CW.region ?_
      refine E.OW.pure rfl rfl rfl (E.PV.fieldAddr fa116_0 rfl rfl) ?_
      refine E.OW.pure rfl rfl rfl (E.PV.loads (i := 0) is114 rfl rfl rfl rfl) ?_
      refine E.OW.pure rfl rfl rfl (E.PV.move rfl rfl) ?_
      (refine E.OW.call nm85 rfl rfl rfl rfl rfl rfl _ (fun w hw => has_ok _ _ _ w) ?_; rintro _ _ ⟨rfl, rfl⟩)
      refine E.OW.pure rfl rfl rfl (E.PV.not rfl rfl) ?_
      refine E.OW.nil ?_
      refine E.then_n ?_
      refine E.CW.cond rfl (fun hc => ?_) (fun hc => ?_)
      · simp only [E.b0, E.b1, E.b2, E.b3, E.b4, E.b5, E.b6, E.b7, E.b8, E.b9, E.b10, E.b11, E.b12, E.b13, E.b14, E.b15, E.b16, E.b17, E.b18, E.b19, E.b20, reduceCtorEq] at hc
        all_goals (
          refine E.CW.seq ?_
          refine E.CW.region ?_
          refine E.OW.pure rfl rfl rfl (E.PV.assign rfl rfl) ?_
          refine E.OW.pure rfl rfl rfl (E.PV.assign rfl rfl) ?_
          refine E.OW.nil ?_
          refine E.then_n ?_
          refine E.CW.ret ?_
          refine E.then_ret ?_
          refine E.KR.two [] Try.results41 rfl rfl rfl ?_
          exact ⟨by (cases hq : Fl.validF a b l <;> simp_all [Fl.owner, Fl.checkF]), rfl⟩)
      · simp only [E.b0, E.b1, E.b2, E.b3, E.b4, E.b5, E.b6, E.b7, E.b8, E.b9, E.b10, E.b11, E.b12, E.b13, E.b14, E.b15, E.b16, E.b17, E.b18, E.b19, E.b20, reduceCtorEq] at hc
        all_goals (
          refine E.CW.skip ?_
          refine E.then_n ?_
          refine E.CW.seq ?_
          have hv : Fl.validF a b l = true := Fl.checkF_zero.1 (by assumption)
          have hh := Fl.has_lt hv (by assumption)
          refine E.CW.region ?_
          refine E.OW.pure rfl rfl rfl (E.PV.loads (i := 0) is116 rfl rfl rfl rfl) ?_
          refine E.OW.pure rfl rfl rfl (E.PV.move rfl rfl) ?_
          (refine E.OW.call nm86 rfl rfl rfl rfl rfl rfl _ (fun w hw => bowner_ok _ _ _ _ _ _ w ?_ ?_) ?_; (focus (omega)); (focus (refine hw.rd ?_; assumption)); rintro _ _ ⟨rfl, rfl⟩)
          refine E.OW.pure rfl rfl rfl (E.PV.assign rfl rfl) ?_
          refine E.OW.pure rfl rfl rfl (E.PV.assign rfl rfl) ?_
          refine E.OW.nil ?_
          refine E.then_n ?_
          refine E.CW.ret ?_
          refine E.KR.two [] Try.results41 rfl rfl rfl ?_
          exact ⟨by (cases hq : Fl.validF a b l <;> simp_all [Fl.owner, Fl.checkF]), rfl⟩))

set_option maxRecDepth 100000 in
theorem Private_ok (a b : Int) (A : Option Addr) (c : Nat) (l : List UInt8) (t : Int) (w0 : World) (hl : l.length ≤ 140737488355328) (hX : E.Rd w0 (E.Old w0) A (E.u8s l)) :
    Calls Try.prog 135 #[.agg #[.int .i64 a, .int .i64 b, .slice A l.length c], .int .i64 t] w0 (E.Post w0 (E.Old w0) fun v Hn => ∃ A2 c2, v = .tuple #[.slice A2 ((Fl.priv a b l t).1).length c2, .int .i64 (Fl.priv a b l t).2] ∧ Hn = [E.HP.row 3 1 A2 ((Fl.priv a b l t).1).length c2 (E.ints ((Fl.priv a b l t).1))]) := by
  refine E.calls_of (vs := [.agg #[.int .i64 a, .int .i64 b, .slice A l.length c], .int .i64 t]) (H := []) Try.func135 Try.ntmps135 rfl rfl (E.HA.start w0) ?_
  refine E.CW.seq ?_
  refine E.CW.region ?_
  refine E.OW.box rfl rfl rfl rfl rfl rfl (fun B1 => ?_)
  refine E.OW.pure rfl rfl rfl (E.PV.assign rfl rfl) ?_
  refine E.OW.pure rfl rfl rfl (E.PV.assign rfl rfl) ?_
  refine E.OW.nil ?_
  refine E.then_n ?_
  refine E.CW.seq ?_
  refine E.CW.region ?_
  refine E.OW.pure rfl rfl rfl (E.PV.loads (i := 0) is24 rfl rfl rfl rfl) ?_
  (refine E.OW.call nm83 rfl rfl rfl rfl rfl rfl _ (fun w hw => boardOf_ok _ _ _ _ _ w) ?_; rintro _ _ ⟨rfl, rfl⟩)
  refine E.OW.alloc (in116.zr) rfl rfl rfl rfl rfl (fun B2 => ?_)
  refine E.OW.store (i := 0) in116.size rfl rfl rfl rfl rfl rfl rfl rfl rfl ?_
  refine E.OW.nil ?_
  refine E.then_n ?_
  refine E.CW.seq ?_
  refine E.CW.seq ?_
  refine E.CW.region ?_
  refine E.OW.pure rfl rfl rfl (E.PV.loads (i := 0) is116 rfl rfl rfl rfl) ?_
  (refine E.OW.call nm84 rfl rfl rfl rfl rfl rfl _ (fun w hw => bcheck_ok _ _ _ _ _ w ?_ ?_) ?_; (focus (assumption)); (focus (refine hw.rd ?_; assumption)); rintro _ _ ⟨rfl, rfl⟩)
  refine E.OW.pure rfl rfl rfl (E.PV.assign rfl rfl) ?_
  refine E.OW.nil ?_
  refine E.then_n ?_
  refine E.CW.seq ?_
  refine E.CW.region ?_
  refine E.OW.pure rfl rfl rfl (E.PV.move rfl rfl) ?_
  refine E.OW.pure rfl rfl rfl (E.PV.neq rfl rfl rfl) ?_
  refine E.OW.nil ?_
  refine E.then_n ?_
  refine E.CW.cond rfl (fun hc => ?_) (fun hc => ?_)
  · simp only [E.b0, E.b1, E.b2, E.b3, E.b4, E.b5, E.b6, E.b7, E.b8, E.b9, E.b10, E.b11, E.b12, E.b13, E.b14, E.b15, E.b16, E.b17, E.b18, E.b19, E.b20, reduceCtorEq] at hc
    all_goals (
      refine E.CW.seq ?_
      refine E.CW.nilrow 3 1 ?_
      refine E.CW.region ?_
      refine E.OW.pure rfl rfl rfl (E.PV.move rfl rfl) ?_
      refine E.OW.pure rfl rfl rfl (E.PV.assign rfl rfl) ?_
      refine E.OW.pure rfl rfl rfl (E.PV.assign rfl rfl) ?_
      refine E.OW.nil ?_
      refine E.then_n ?_
      refine E.CW.ret ?_
      refine E.then_ret ?_
      refine E.KR.two [0] Try.results135 rfl rfl rfl ?_
      have e : Fl.checkF a b l = 50 ∧ Fl.priv a b l t = ([], 50) := by (cases hq : Fl.validF a b l <;> simp_all [Fl.priv, Fl.checkF])
      rw [e.1, e.2]
      exact ⟨none, 0, rfl, rfl⟩)
  · simp only [E.b0, E.b1, E.b2, E.b3, E.b4, E.b5, E.b6, E.b7, E.b8, E.b9, E.b10, E.b11, E.b12, E.b13, E.b14, E.b15, E.b16, E.b17, E.b18, E.b19, E.b20, reduceCtorEq] at hc
    all_goals (
      refine E.CW.skip ?_
      refine E.then_n ?_
      refine E.CW.seq ?_
      refine E.CW.seq ?_
      refine E.CW.region ?_
      refine E.OW.pure rfl rfl rfl (E.PV.move rfl rfl) ?_
      (refine E.OW.call nm115 rfl rfl rfl rfl rfl rfl _ (fun w hw => in_ok _ _ w) ?_; rintro _ _ ⟨rfl, rfl⟩)
      refine E.OW.pure rfl rfl rfl (E.PV.not rfl rfl) ?_
      refine E.OW.nil ?_
      refine E.then_n ?_
      refine E.CW.cond rfl (fun hc => ?_) (fun hc => ?_)
      · simp only [E.b0, E.b1, E.b2, E.b3, E.b4, E.b5, E.b6, E.b7, E.b8, E.b9, E.b10, E.b11, E.b12, E.b13, E.b14, E.b15, E.b16, E.b17, E.b18, E.b19, E.b20, reduceCtorEq] at hc
        all_goals (
          refine E.CW.seq ?_
          refine E.CW.nilrow 3 1 ?_
          refine E.CW.region ?_
          refine E.OW.pure rfl rfl rfl (E.PV.assign rfl rfl) ?_
          refine E.OW.pure rfl rfl rfl (E.PV.assign rfl rfl) ?_
          refine E.OW.nil ?_
          refine E.then_n ?_
          refine E.CW.ret ?_
          refine E.then_ret ?_
          refine E.KR.two [0] Try.results135 rfl rfl rfl ?_
          have hv : Fl.validF a b l = true := Fl.checkF_zero.1 (by assumption)
          rw [show Fl.priv a b l t = ([], 2) by simp [Fl.priv, *]]
          exact ⟨none, 0, rfl, rfl⟩)
      · simp only [E.b0, E.b1, E.b2, E.b3, E.b4, E.b5, E.b6, E.b7, E.b8, E.b9, E.b10, E.b11, E.b12, E.b13, E.b14, E.b15, E.b16, E.b17, E.b18, E.b19, E.b20, reduceCtorEq] at hc
        all_goals (
          refine E.CW.skip ?_
          refine E.then_n ?_
          refine E.CW.seq ?_
          have hv : Fl.validF a b l = true := Fl.checkF_zero.1 (by assumption)
          have h64 := Fl.validF_len hv
          refine E.CW.region ?_
          refine E.OW.pure rfl rfl rfl (E.PV.loads (i := 0) is116 rfl rfl rfl rfl) ?_
          refine E.OW.pure rfl rfl rfl (E.PV.move rfl rfl) ?_
          (refine E.OW.call nm149 rfl rfl rfl rfl rfl rfl _ (fun w hw => bof_ok _ _ _ _ _ _ w ?_ ?_) ?_; (focus (assumption)); (focus (refine hw.rd ?_; assumption)); rintro _ _ ⟨_, _, rfl, rfl⟩)
          refine E.OW.pure rfl rfl rfl (E.PV.assign rfl rfl) ?_
          refine E.OW.pure rfl rfl rfl (E.PV.assign rfl rfl) ?_
          refine E.OW.nil ?_
          refine E.then_n ?_
          refine E.CW.ret ?_
          refine E.KR.two [0] Try.results135 rfl rfl rfl ?_
          have hv : Fl.validF a b l = true := Fl.checkF_zero.1 (by assumption)
          rw [show Fl.priv a b l t = (_, 0) by simp only [Fl.priv, *, if_true]; rfl]
          exact ⟨_, _, rfl, rfl⟩))

set_option maxRecDepth 100000 in
theorem rcell_ok (x : UInt8) (w0 : World) :
    Calls Try.prog 143 #[.int .u8 (x.toNat : Int)] w0 (E.Post w0 (E.Old w0) fun v Hn => v = .bool (Fl.okc x) ∧ Hn = []) := by
  have hu := x.toNat_lt
  refine E.calls_of (vs := [.int .u8 (x.toNat : Int)]) (H := []) Try.func143 Try.ntmps143 rfl rfl (E.HA.start w0) ?_
  refine E.CW.seq ?_
  refine E.CW.region ?_
  refine E.OW.pure rfl rfl rfl (E.PV.assign rfl rfl) ?_
  refine E.OW.nil ?_
  refine E.then_n ?_
  refine E.CW.seq ?_
  refine E.CW.region ?_
  refine E.OW.pure rfl rfl rfl (E.PV.move rfl rfl) ?_
  refine E.OW.pure rfl rfl rfl (E.PV.leq rfl rfl rfl) ?_
  refine E.OW.pure rfl rfl rfl (E.PV.move rfl rfl) ?_
  all_goals (refine E.OW.split 5 rfl (fun hc => ?_) (fun hc => ?_) <;> (try simp only [E.b0, E.b1, E.b2, E.b3, E.b4, E.b5, E.b6, E.b7, E.b8, E.b9, E.b10, E.b11, E.b12, E.b13, E.b14, E.b15, E.b16, E.b17, E.b18, E.b19, E.b20, reduceCtorEq] at hc) <;> (try (exfalso; first | assumption | contradiction | omega)))
  all_goals (first | (refine E.OW.off rfl rfl rfl ?_) | (refine E.OW.pure rfl rfl rfl (E.PV.move rfl rfl) ?_))
  all_goals (first | (refine E.OW.off rfl rfl rfl ?_) | (refine E.OW.pure rfl rfl rfl (E.PV.eql rfl rfl rfl) ?_))
  all_goals (first | (refine E.OW.pure rfl rfl rfl (E.PV.pick_t rfl rfl rfl) ?_) | (refine E.OW.pure rfl rfl rfl (E.PV.pick_f rfl rfl rfl) ?_))
  all_goals (refine E.OW.pure rfl rfl rfl (E.PV.assign rfl rfl) ?_)
  all_goals (
    refine E.OW.nil ?_
    refine E.then_n ?_
    refine E.CW.ret ?_
    refine E.KR.one [] Try.results143 rfl rfl ?_
    exact ⟨by rw [Fl.okc_i]; simp [*] <;> omega, rfl⟩)

set_option maxRecDepth 100000 in
theorem rValidFloor_ok (a b : Int) (A : Option Addr) (c : Nat) (l : List UInt8) (w0 : World) (hl : l.length ≤ 140737488355328) (hX : E.Rd w0 (E.Old w0) A (E.u8s l)) :
    Calls Try.prog 120 #[.agg #[.int .i64 a, .int .i64 b, .slice A l.length c]] w0 (E.Post w0 (E.Old w0) fun v Hn => v = .bool (Fl.validF a b l) ∧ Hn = []) := by
  refine E.calls_of (vs := [.agg #[.int .i64 a, .int .i64 b, .slice A l.length c]]) (H := []) Try.func120 Try.ntmps120 rfl rfl (E.HA.start w0) ?_
  refine E.CW.seq ?_
  refine E.CW.region ?_
  refine E.OW.box rfl rfl rfl rfl rfl rfl (fun B1 => ?_)
  refine E.OW.pure rfl rfl rfl (E.PV.assign rfl rfl) ?_
  refine E.OW.nil ?_
  refine E.then_n ?_
  refine E.CW.seq ?_
  refine E.CW.seq ?_
  refine E.CW.region ?_
  refine E.OW.pure rfl rfl rfl (E.PV.fieldAddr fa24_0 rfl rfl) ?_
  refine E.OW.pure rfl rfl rfl (E.PV.load (i := 0) na3 rfl rfl rfl rfl) ?_
  refine E.OW.pure rfl rfl rfl (E.PV.fieldAddr fa24_1 rfl rfl) ?_
  refine E.OW.pure rfl rfl rfl (E.PV.load (i := 0) na3 rfl rfl rfl rfl) ?_
  (refine E.OW.call nm142 rfl rfl rfl rfl rfl rfl _ (fun w hw => rValidSides_ok _ _ w) ?_; rintro _ _ ⟨rfl, rfl⟩)
  refine E.OW.pure rfl rfl rfl (E.PV.not rfl rfl) ?_
  refine E.OW.pure rfl rfl rfl (E.PV.move rfl rfl) ?_
  all_goals (refine E.OW.split 10 rfl (fun hc => ?_) (fun hc => ?_) <;> (try simp only [E.b0, E.b1, E.b2, E.b3, E.b4, E.b5, E.b6, E.b7, E.b8, E.b9, E.b10, E.b11, E.b12, E.b13, E.b14, E.b15, E.b16, E.b17, E.b18, E.b19, E.b20, reduceCtorEq] at hc) <;> (try (exfalso; first | assumption | contradiction | omega)))
  all_goals (first | (refine E.OW.off rfl rfl rfl ?_) | (refine E.OW.pure rfl rfl rfl (E.PV.fieldAddr fa24_2 rfl rfl) ?_))
  all_goals (first | (refine E.OW.off rfl rfl rfl ?_) | (refine E.OW.pure rfl rfl rfl (E.PV.load (i := 0) na22 rfl rfl rfl rfl) ?_))
  all_goals (first | (refine E.OW.off rfl rfl rfl ?_) | (refine E.OW.pure rfl rfl rfl (E.PV.len Try.underlying22 rfl rfl) ?_))
  all_goals (first | (refine E.OW.off rfl rfl rfl ?_) | (refine E.OW.pure rfl rfl rfl (E.PV.fieldAddr fa24_0 rfl rfl) ?_))
  all_goals (first | (refine E.OW.off rfl rfl rfl ?_) | (refine E.OW.pure rfl rfl rfl (E.PV.load (i := 0) na3 rfl rfl rfl rfl) ?_))
  all_goals (first | (refine E.OW.off rfl rfl rfl ?_) | (refine E.OW.pure rfl rfl rfl (E.PV.fieldAddr fa24_1 rfl rfl) ?_))
  all_goals (first | (refine E.OW.off rfl rfl rfl ?_) | (refine E.OW.pure rfl rfl rfl (E.PV.load (i := 0) na3 rfl rfl rfl rfl) ?_))
  all_goals (first | (refine E.OW.off rfl rfl rfl ?_) | (refine E.OW.pure rfl rfl rfl (E.PV.mul_i64 rfl rfl rfl ?_) ?_; (focus ((first | omega | (have hv := Fl.valid_iff.1 (show Fl.valid a b = true by assumption); have := Fl.mulb (a := a) (b := b) (by omega) (by omega); omega))))))
  all_goals (first | (refine E.OW.off rfl rfl rfl ?_) | (refine E.OW.pure rfl rfl rfl (E.PV.neq rfl rfl rfl) ?_))
  all_goals (first | (refine E.OW.pure rfl rfl rfl (E.PV.pick_t rfl rfl rfl) ?_) | (refine E.OW.pure rfl rfl rfl (E.PV.pick_f rfl rfl rfl) ?_))
  all_goals (
    refine E.OW.nil ?_
    refine E.then_n ?_
    refine E.CW.cond rfl (fun hc => ?_) (fun hc => ?_)
    · simp only [E.b0, E.b1, E.b2, E.b3, E.b4, E.b5, E.b6, E.b7, E.b8, E.b9, E.b10, E.b11, E.b12, E.b13, E.b14, E.b15, E.b16, E.b17, E.b18, E.b19, E.b20, reduceCtorEq] at hc
      all_goals (
        refine E.CW.seq ?_
        refine E.CW.region ?_
        refine E.OW.pure rfl rfl rfl (E.PV.assign rfl rfl) ?_
        refine E.OW.nil ?_
        refine E.then_n ?_
        refine E.CW.ret ?_
        refine E.then_ret ?_
        refine E.KR.one [] Try.results120 rfl rfl ?_
        exact ⟨by simp [Fl.validF, *], rfl⟩)
    · first | ((cases hc; done)) | (simp only [E.b0, E.b1, E.b2, E.b3, E.b4, E.b5, E.b6, E.b7, E.b8, E.b9, E.b10, E.b11, E.b12, E.b13, E.b14, E.b15, E.b16, E.b17, E.b18, E.b19, E.b20, reduceCtorEq] at hc)
      all_goals (
        refine E.CW.skip ?_
        refine E.then_n ?_
        refine E.CW.seq ?_
        refine E.CW.seq ?_
        refine E.CW.region ?_
        refine E.OW.pure rfl rfl rfl (E.PV.assign rfl rfl) ?_
        refine E.OW.nil ?_
        refine E.then_n ?_
        refine E.CW.block ?_
        refine E.CW.loopk [1] 0 rfl rfl (fun mm mods Hm => ∃ k : Nat, mm = l.length - k ∧ mods = [(3, .int .i64 k)] ∧ Hm = [] ∧ (k ≤ l.length ∧ ∀ j, j < k → Fl.okc (l.getD j 0) = true)) (l.length) ?_ ?_
        · exact ⟨[(3, _)], (by repeat (first | exact E.cov_nil | refine ⟨rfl, ?_⟩)), 0, rfl, rfl, rfl, by omega, fun j hj => by omega⟩
        · rintro _ _ _ ⟨k, rfl, rfl, rfl, hk, hI⟩
          refine E.CW.seq ?_
          refine E.CW.seq ?_
          refine E.CW.region ?_
          refine E.OW.pure rfl rfl rfl (E.PV.move rfl rfl) ?_
          refine E.OW.pure rfl rfl rfl (E.PV.fieldAddr fa24_2 rfl rfl) ?_
          refine E.OW.pure rfl rfl rfl (E.PV.load (i := 0) na22 rfl rfl rfl rfl) ?_
          refine E.OW.pure rfl rfl rfl (E.PV.len Try.underlying22 rfl rfl) ?_
          refine E.OW.pure rfl rfl rfl (E.PV.lss rfl rfl rfl) ?_
          refine E.OW.nil ?_
          refine E.then_n ?_
          refine E.CW.cond rfl (fun hc => ?_) (fun hc => ?_)
          · simp only [E.b0, E.b1, E.b2, E.b3, E.b4, E.b5, E.b6, E.b7, E.b8, E.b9, E.b10, E.b11, E.b12, E.b13, E.b14, E.b15, E.b16, E.b17, E.b18, E.b19, E.b20, reduceCtorEq] at hc
            all_goals (
              refine E.CW.skip ?_
              refine E.then_n ?_
              refine E.CW.seq ?_
              refine E.CW.block ?_
              refine E.CW.seq ?_
              refine E.CW.region ?_
              refine E.OW.pure rfl rfl rfl (E.PV.fieldAddr fa24_2 rfl rfl) ?_
              refine E.OW.pure rfl rfl rfl (E.PV.load (i := 0) na22 rfl rfl rfl rfl) ?_
              refine E.OW.pure rfl rfl rfl (E.PV.move rfl rfl) ?_
              refine E.OW.pure rfl rfl rfl (E.PV.indexAddr1 (E.rdc hX) Try.underlying22 in5 rfl rfl rfl rfl ?_ ?_) ?_; (focus (first | (simp; done) | (simp; omega))); (focus (omega))
              refine E.OW.pure rfl rfl rfl (E.PV.load_u8 (E.rdc hX) na5 rfl rfl ?_) ?_; (focus (omega))
              (refine E.OW.call nm143 rfl rfl rfl rfl rfl rfl _ (fun w hw => rcell_ok _ w) ?_; rintro _ _ ⟨rfl, rfl⟩)
              refine E.OW.pure rfl rfl rfl (E.PV.not rfl rfl) ?_
              refine E.OW.nil ?_
              refine E.then_n ?_
              refine E.CW.cond rfl (fun hc => ?_) (fun hc => ?_)
              · simp only [E.b0, E.b1, E.b2, E.b3, E.b4, E.b5, E.b6, E.b7, E.b8, E.b9, E.b10, E.b11, E.b12, E.b13, E.b14, E.b15, E.b16, E.b17, E.b18, E.b19, E.b20, reduceCtorEq] at hc
                all_goals (
                  refine E.CW.seq ?_
                  refine E.CW.region ?_
                  refine E.OW.pure rfl rfl rfl (E.PV.assign rfl rfl) ?_
                  refine E.OW.nil ?_
                  refine E.then_n ?_
                  refine E.CW.ret ?_
                  refine E.blk_ret ?_
                  refine E.then_ret ?_
                  refine E.then_ret ?_
                  refine E.blk_ret ?_
                  refine E.then_ret ?_
                  refine E.KR.one [] Try.results120 rfl rfl ?_
                  exact ⟨by rw [Fl.validF_bad (k := k) (by omega) (by assumption)], rfl⟩)
              · simp only [E.b0, E.b1, E.b2, E.b3, E.b4, E.b5, E.b6, E.b7, E.b8, E.b9, E.b10, E.b11, E.b12, E.b13, E.b14, E.b15, E.b16, E.b17, E.b18, E.b19, E.b20, reduceCtorEq] at hc
                all_goals (
                  refine E.CW.skip ?_
                  refine E.blk_n ?_
                  refine E.then_n ?_
                  refine E.CW.region ?_
                  refine E.OW.pure rfl rfl rfl (E.PV.move rfl rfl) ?_
                  refine E.OW.pure rfl rfl rfl (E.PV.add_i64 rfl rfl rfl ?_) ?_; (focus ((first | omega | (have hv := Fl.valid_iff.1 (show Fl.valid a b = true by assumption); have := Fl.mulb (a := a) (b := b) (by omega) (by omega); omega))))
                  refine E.OW.pure rfl rfl rfl (E.PV.assign rfl rfl) ?_
                  refine E.OW.nil ?_
                  refine E.then_nf ?_
                  refine ⟨_, [(3, _)], [0], _, ?_, by repeat (first | exact E.cov_nil | refine ⟨rfl, ?_⟩), rfl, k + 1, rfl, rfl, rfl, by omega, fun j hj => by
    rcases Nat.lt_succ_iff_lt_or_eq.1 hj with h | rfl
    · exact hI j h
    · assumption⟩
                  omega))
          · simp only [E.b0, E.b1, E.b2, E.b3, E.b4, E.b5, E.b6, E.b7, E.b8, E.b9, E.b10, E.b11, E.b12, E.b13, E.b14, E.b15, E.b16, E.b17, E.b18, E.b19, E.b20, reduceCtorEq] at hc
            all_goals (
              refine E.CW.exit ?_
              refine E.then_x ?_
              refine E.then_x ?_
              refine E.blk_eq ?_
              refine E.then_n ?_
              refine E.CW.seq ?_
              refine E.CW.region ?_
              refine E.OW.pure rfl rfl rfl (E.PV.assign rfl rfl) ?_
              refine E.OW.nil ?_
              refine E.then_n ?_
              refine E.CW.ret ?_
              refine E.KR.one [] Try.results120 rfl rfl ?_
              exact ⟨by rw [Fl.validF_good (by assumption) (by assumption) (fun j hj => hI j (by omega))], rfl⟩)))

set_option maxRecDepth 100000 in
theorem rOwn_ok (a b : Int) (A : Option Addr) (c : Nat) (l : List UInt8) (t p : Int) (w0 : World) (hp : 0 ≤ p ∧ p < l.length) (hX : E.Rd w0 (E.Old w0) A (E.u8s l)) :
    Calls Try.prog 93 #[.agg #[.int .i64 a, .int .i64 b, .slice A l.length c], .int .i64 t, .int .i64 p] w0 (E.Post w0 (E.Old w0) fun v Hn => v = .bool (Fl.own t (l.getD p.toNat 0)) ∧ Hn = []) := by
  have hu := (l.getD p.toNat 0).toNat_lt
  refine E.calls_of (vs := [.agg #[.int .i64 a, .int .i64 b, .slice A l.length c], .int .i64 t, .int .i64 p]) (H := []) Try.func93 Try.ntmps93 rfl rfl (E.HA.start w0) ?_
  refine E.CW.seq ?_
  refine E.CW.region ?_
  refine E.OW.box rfl rfl rfl rfl rfl rfl (fun B1 => ?_)
  refine E.OW.pure rfl rfl rfl (E.PV.assign rfl rfl) ?_
  refine E.OW.nil ?_
  refine E.then_n ?_
  refine E.CW.seq ?_
  refine E.CW.region ?_
  refine E.OW.pure rfl rfl rfl (E.PV.move rfl rfl) ?_
  refine E.OW.pure rfl rfl rfl (E.PV.geq rfl rfl rfl) ?_
  refine E.OW.pure rfl rfl rfl (E.PV.move rfl rfl) ?_
  all_goals (refine E.OW.split 9 rfl (fun hc => ?_) (fun hc => ?_) <;> (try simp only [E.b0, E.b1, E.b2, E.b3, E.b4, E.b5, E.b6, E.b7, E.b8, E.b9, E.b10, E.b11, E.b12, E.b13, E.b14, E.b15, E.b16, E.b17, E.b18, E.b19, E.b20, reduceCtorEq] at hc) <;> (try (exfalso; first | assumption | contradiction | omega)))
  all_goals (first | (refine E.OW.off rfl rfl rfl ?_) | (refine E.OW.pure rfl rfl rfl (E.PV.move rfl rfl) ?_))
  all_goals (first | (refine E.OW.off rfl rfl rfl ?_) | (refine E.OW.pure rfl rfl rfl (E.PV.lss rfl rfl rfl) ?_))
  all_goals (first | (refine E.OW.pure rfl rfl rfl (E.PV.pick_t rfl rfl rfl) ?_) | (refine E.OW.pure rfl rfl rfl (E.PV.pick_f rfl rfl rfl) ?_))
  all_goals (refine E.OW.pure rfl rfl rfl (E.PV.move rfl rfl) ?_)
  all_goals (first | (refine E.OW.put 13 (.bool false) (v := .bool false) rfl rfl ?_) | (refine E.OW.split 13 rfl (fun hc => ?_) (fun hc => ?_) <;> (try simp only [E.b0, E.b1, E.b2, E.b3, E.b4, E.b5, E.b6, E.b7, E.b8, E.b9, E.b10, E.b11, E.b12, E.b13, E.b14, E.b15, E.b16, E.b17, E.b18, E.b19, E.b20, reduceCtorEq] at hc) <;> (try (exfalso; first | assumption | contradiction | omega))))
  all_goals (first | (refine E.OW.off rfl rfl rfl ?_) | (refine E.OW.pure rfl rfl rfl (E.PV.fieldAddr fa24_2 rfl rfl) ?_))
  all_goals (first | (refine E.OW.off rfl rfl rfl ?_) | (refine E.OW.pure rfl rfl rfl (E.PV.load (i := 0) na22 rfl rfl rfl rfl) ?_))
  all_goals (first | (refine E.OW.off rfl rfl rfl ?_) | (refine E.OW.pure rfl rfl rfl (E.PV.move rfl rfl) ?_))
  all_goals (first | (refine E.OW.off rfl rfl rfl ?_) | (refine E.OW.pure rfl rfl rfl (E.PV.indexAddr1 (E.rdc hX) Try.underlying22 in5 rfl rfl rfl (E.tn ?_) ?_ ?_) ?_; (focus (omega)); (focus (first | (simp; done) | (simp; omega))); (focus (omega))))
  all_goals (first | (refine E.OW.off rfl rfl rfl ?_) | (refine E.OW.pure rfl rfl rfl (E.PV.load_u8 (E.rdc hX) na5 rfl rfl ?_) ?_; (focus (omega))))
  all_goals (first | (refine E.OW.off rfl rfl rfl ?_) | (refine E.OW.pure rfl rfl rfl (E.PV.conv_in Try.underlying5 Try.underlying3 rfl rfl ?_) ?_; (focus (first | exact E.wrap_u8 _ | (simp only [IntKind.wrap_i64, IntKind.wrap_u64, IntKind.wrap_u8]; omega)))))
  all_goals (first | (refine E.OW.off rfl rfl rfl ?_) | (refine E.OW.pure rfl rfl rfl (E.PV.move rfl rfl) ?_))
  all_goals (first | (refine E.OW.off rfl rfl rfl ?_) | (refine E.OW.pure rfl rfl rfl (E.PV.add_i64 rfl rfl rfl ?_) ?_; (focus (omega))))
  all_goals (first | (refine E.OW.off rfl rfl rfl ?_) | (refine E.OW.pure rfl rfl rfl (E.PV.eql rfl rfl rfl) ?_))
  all_goals (first | (refine E.OW.pure rfl rfl rfl (E.PV.pick_t rfl rfl rfl) ?_) | (refine E.OW.pure rfl rfl rfl (E.PV.pick_f rfl rfl rfl) ?_))
  all_goals (refine E.OW.pure rfl rfl rfl (E.PV.assign rfl rfl) ?_)
  all_goals (
    refine E.OW.nil ?_
    refine E.then_n ?_
    refine E.CW.ret ?_
    refine E.KR.one [] Try.results93 rfl rfl ?_
    exact ⟨by (unfold Fl.own; simp [*] <;> omega), rfl⟩)

set_option maxRecDepth 100000 in
theorem rAisle_ok (a b : Int) (A : Option Addr) (c : Nat) (l : List UInt8) (p : Int) (w0 : World) (hp : 0 ≤ p ∧ p < l.length) (hX : E.Rd w0 (E.Old w0) A (E.u8s l)) :
    Calls Try.prog 94 #[.agg #[.int .i64 a, .int .i64 b, .slice A l.length c], .int .i64 p] w0 (E.Post w0 (E.Old w0) fun v Hn => v = .bool (decide (Fl.ownerC (l.getD p.toNat 0) = -2)) ∧ Hn = []) := by
  refine E.calls_of (vs := [.agg #[.int .i64 a, .int .i64 b, .slice A l.length c], .int .i64 p]) (H := []) Try.func94 Try.ntmps94 rfl rfl (E.HA.start w0) ?_
  refine E.CW.seq ?_
  refine E.CW.region ?_
  refine E.OW.box rfl rfl rfl rfl rfl rfl (fun B1 => ?_)
  refine E.OW.pure rfl rfl rfl (E.PV.assign rfl rfl) ?_
  refine E.OW.nil ?_
  refine E.then_n ?_
  refine E.CW.seq ?_
  refine E.CW.region ?_
  refine E.OW.pure rfl rfl rfl (E.PV.fieldAddr fa24_2 rfl rfl) ?_
  refine E.OW.pure rfl rfl rfl (E.PV.load (i := 0) na22 rfl rfl rfl rfl) ?_
  refine E.OW.pure rfl rfl rfl (E.PV.move rfl rfl) ?_
  refine E.OW.pure rfl rfl rfl (E.PV.indexAddr1 (E.rdc hX) Try.underlying22 in5 rfl rfl rfl (E.tn ?_) ?_ ?_) ?_; (focus (omega)); (focus (first | (simp; done) | (simp; omega))); (focus (omega))
  refine E.OW.pure rfl rfl rfl (E.PV.load_u8 (E.rdc hX) na5 rfl rfl ?_) ?_; (focus (omega))
  refine E.OW.pure rfl rfl rfl (E.PV.eql rfl rfl rfl) ?_
  refine E.OW.pure rfl rfl rfl (E.PV.assign rfl rfl) ?_
  refine E.OW.nil ?_
  refine E.then_n ?_
  refine E.CW.ret ?_
  refine E.KR.one [] Try.results94 rfl rfl ?_
  exact ⟨by rw [Fl.aisle_iff], rfl⟩

set_option maxRecDepth 100000 in
theorem Ix_ok (A : Option Addr) (c : Nat) (l : List Int) (x : Int) (w0 : World) (hl : l.length ≤ 140737488355328) (hX : E.Rd w0 (E.Old w0) A (E.ints l)) :
    Calls Try.prog 150 #[.slice A l.length c, .int .i64 x] w0 (E.Post w0 (E.Old w0) fun v Hn => v = .int .i64 (Cf.idx (fun y => decide (x = y)) l) ∧ Hn = []) := by
  refine E.calls_of (vs := [.slice A l.length c, .int .i64 x]) (H := []) Try.func150 Try.ntmps150 rfl rfl (E.HA.start w0) ?_
  refine E.CW.seq ?_
  refine E.CW.region ?_
  refine E.OW.pure rfl rfl rfl (E.PV.assign rfl rfl) ?_
  refine E.OW.nil ?_
  refine E.then_n ?_
  refine E.CW.seq ?_
  refine E.CW.seq ?_
  refine E.CW.region ?_
  refine E.OW.pure rfl rfl rfl (E.PV.move rfl rfl) ?_
  refine E.OW.pure rfl rfl rfl (E.PV.len Try.underlying31 rfl rfl) ?_
  refine E.OW.pure rfl rfl rfl (E.PV.move rfl rfl) ?_
  refine E.OW.nil ?_
  refine E.then_n ?_
  refine E.CW.block ?_
  refine E.CW.loopk [0, 1, 7] 0 rfl rfl (fun mm mods Hm => ∃ k : Nat, mm = l.length - k ∧ mods = [(8, .int .i64 k)] ∧ Hm = [] ∧ (k ≤ l.length ∧ ∀ j, j < k → decide (x = l.getD j 0) = false)) (l.length) ?_ ?_
  · exact ⟨[(8, _)], (by repeat (first | exact E.cov_nil | refine ⟨rfl, ?_⟩)), 0, rfl, rfl, rfl, by omega, fun j hj => by omega⟩
  · rintro _ _ _ ⟨k, rfl, rfl, rfl, hk, hI⟩
    refine E.CW.seq ?_
    refine E.CW.region ?_
    refine E.OW.pure rfl rfl rfl (E.PV.lss rfl rfl rfl) ?_
    refine E.OW.nil ?_
    refine E.then_n ?_
    refine E.CW.seq ?_
    refine E.CW.cond rfl (fun hc => ?_) (fun hc => ?_)
    · simp only [E.b0, E.b1, E.b2, E.b3, E.b4, E.b5, E.b6, E.b7, E.b8, E.b9, E.b10, E.b11, E.b12, E.b13, E.b14, E.b15, E.b16, E.b17, E.b18, E.b19, E.b20, reduceCtorEq] at hc
      all_goals (
        refine E.CW.skip ?_
        refine E.then_n ?_
        refine E.CW.seq ?_
        refine E.CW.block ?_
        refine E.CW.seq ?_
        refine E.CW.region ?_
        refine E.OW.pure rfl rfl rfl (E.PV.move rfl rfl) ?_
        refine E.OW.pure rfl rfl rfl (E.PV.assign rfl rfl) ?_
        refine E.OW.nil ?_
        refine E.then_n ?_
        refine E.CW.seq ?_
        refine E.CW.region ?_
        refine E.OW.pure rfl rfl rfl (E.PV.move rfl rfl) ?_
        refine E.OW.pure rfl rfl rfl (E.PV.move rfl rfl) ?_
        refine E.OW.pure rfl rfl rfl (E.PV.move rfl rfl) ?_
        refine E.OW.pure rfl rfl rfl (E.PV.indexAddr1 (E.rdc hX) Try.underlying31 in3 rfl rfl rfl rfl ?_ ?_) ?_; (focus (first | (simp; done) | (simp; omega))); (focus (omega))
        refine E.OW.pure rfl rfl rfl (E.PV.load_int (E.rdc hX) na3 rfl rfl ?_) ?_; (focus (omega))
        refine E.OW.pure rfl rfl rfl (E.PV.eql rfl rfl rfl) ?_
        refine E.OW.nil ?_
        refine E.then_n ?_
        refine E.CW.cond rfl (fun hc => ?_) (fun hc => ?_)
        · simp only [E.b0, E.b1, E.b2, E.b3, E.b4, E.b5, E.b6, E.b7, E.b8, E.b9, E.b10, E.b11, E.b12, E.b13, E.b14, E.b15, E.b16, E.b17, E.b18, E.b19, E.b20, reduceCtorEq] at hc
          all_goals (
            refine E.CW.seq ?_
            refine E.CW.region ?_
            refine E.OW.pure rfl rfl rfl (E.PV.move rfl rfl) ?_
            refine E.OW.pure rfl rfl rfl (E.PV.assign rfl rfl) ?_
            refine E.OW.nil ?_
            refine E.then_n ?_
            refine E.CW.ret ?_
            refine E.blk_ret ?_
            refine E.then_ret ?_
            refine E.then_ret ?_
            refine E.blk_ret ?_
            refine E.then_ret ?_
            refine E.KR.one [] Try.results150 rfl rfl ?_
            exact ⟨by rw [Cf.idx_some (k := k) (by omega) hI (decide_eq_true (by assumption))], rfl⟩)
        · simp only [E.b0, E.b1, E.b2, E.b3, E.b4, E.b5, E.b6, E.b7, E.b8, E.b9, E.b10, E.b11, E.b12, E.b13, E.b14, E.b15, E.b16, E.b17, E.b18, E.b19, E.b20, reduceCtorEq] at hc
          all_goals (
            refine E.CW.skip ?_
            refine E.blk_n ?_
            refine E.then_n ?_
            refine E.CW.region ?_
            refine E.OW.pure rfl rfl rfl (E.PV.add_i64 rfl rfl rfl ?_) ?_; (focus (omega))
            refine E.OW.pure rfl rfl rfl (E.PV.move rfl rfl) ?_
            refine E.OW.nil ?_
            refine E.then_nf ?_
            refine ⟨_, [(8, _)], [], _, ?_, by repeat (first | exact E.cov_nil | refine ⟨rfl, ?_⟩), rfl, k + 1, rfl, rfl, rfl, by omega, Cf.next_all hI (decide_eq_false (by assumption))⟩
            omega))
    · simp only [E.b0, E.b1, E.b2, E.b3, E.b4, E.b5, E.b6, E.b7, E.b8, E.b9, E.b10, E.b11, E.b12, E.b13, E.b14, E.b15, E.b16, E.b17, E.b18, E.b19, E.b20, reduceCtorEq] at hc
      all_goals (
        refine E.CW.exit ?_
        refine E.then_x ?_
        refine E.then_x ?_
        refine E.blk_eq ?_
        refine E.then_n ?_
        refine E.CW.seq ?_
        refine E.CW.region ?_
        refine E.OW.pure rfl rfl rfl (E.PV.assign rfl rfl) ?_
        refine E.OW.nil ?_
        refine E.then_n ?_
        refine E.CW.ret ?_
        refine E.KR.one [] Try.results150 rfl rfl ?_
        exact ⟨by rw [Cf.idx_none (fun j hj => hI j (by omega))], rfl⟩)

set_option maxRecDepth 100000 in
theorem Cn_ok (A : Option Addr) (c : Nat) (l : List Int) (x : Int) (w0 : World) (hl : l.length ≤ 140737488355328) (hX : E.Rd w0 (E.Old w0) A (E.ints l)) :
    Calls Try.prog 138 #[.slice A l.length c, .int .i64 x] w0 (E.Post w0 (E.Old w0) fun v Hn => v = .bool (decide (x ∈ l)) ∧ Hn = []) := by
  refine E.calls_of (vs := [.slice A l.length c, .int .i64 x]) (H := []) Try.func138 Try.ntmps138 rfl rfl (E.HA.start w0) ?_
  refine E.CW.seq ?_
  refine E.CW.region ?_
  refine E.OW.pure rfl rfl rfl (E.PV.assign rfl rfl) ?_
  refine E.OW.nil ?_
  refine E.then_n ?_
  refine E.CW.seq ?_
  refine E.CW.region ?_
  refine E.OW.pure rfl rfl rfl (E.PV.move rfl rfl) ?_
  refine E.OW.pure rfl rfl rfl (E.PV.move rfl rfl) ?_
  (refine E.OW.call nm150 rfl rfl rfl rfl rfl rfl _ (fun w hw => Ix_ok _ _ _ _ w ?_ ?_) ?_; (focus (assumption)); (focus (refine hw.rd ?_; assumption)); rintro _ _ ⟨rfl, rfl⟩)
  refine E.OW.pure rfl rfl rfl (E.PV.geq rfl rfl rfl) ?_
  refine E.OW.pure rfl rfl rfl (E.PV.assign rfl rfl) ?_
  refine E.OW.nil ?_
  refine E.then_n ?_
  refine E.CW.ret ?_
  refine E.KR.one [] Try.results138 rfl rfl ?_
  exact ⟨by rw [Cf.idx_mem], rfl⟩

set_option maxRecDepth 100000 in
theorem Ds_ok (A : Option Addr) (c : Nat) (l : List Int) (w0 : World) (hi64 : Cf.i64s l) (hl : l.length ≤ 140737488355328) (hX : E.Rd w0 (E.Old w0) A (E.ints l)) :
    Calls Try.prog 140 #[.slice A l.length c] w0 (E.Post w0 (E.Old w0) fun v Hn => v = .bool (decide l.Nodup) ∧ Hn = []) := by
  refine E.calls_of (vs := [.slice A l.length c]) (H := []) Try.func140 Try.ntmps140 rfl rfl (E.HA.start w0) ?_
  refine E.CW.seq ?_
  refine E.CW.region ?_
  refine E.OW.pure rfl rfl rfl (E.PV.assign rfl rfl) ?_
  refine E.OW.nil ?_
  refine E.then_n ?_
  refine E.CW.seq ?_
  refine E.CW.region ?_
  refine E.OW.makeMap (kt := 3) (e := 3) rfl rfl rfl rfl (fun B1 => ?_)
  refine E.OW.pure rfl rfl rfl (E.PV.assign rfl rfl) ?_
  refine E.OW.nil ?_
  refine E.then_n ?_
  refine E.CW.seq ?_
  refine E.CW.seq ?_
  refine E.CW.region ?_
  refine E.OW.pure rfl rfl rfl (E.PV.move rfl rfl) ?_
  refine E.OW.pure rfl rfl rfl (E.PV.len Try.underlying31 rfl rfl) ?_
  refine E.OW.pure rfl rfl rfl (E.PV.move rfl rfl) ?_
  refine E.OW.nil ?_
  refine E.then_n ?_
  refine E.CW.block ?_
  refine E.CW.loopk [0, 3, 7, 8] 1 rfl rfl (fun mm mods Hm => ∃ k : Nat, ∃ D : List (Lit × DataW Unit), mm = l.length - k ∧ mods = [(9, .int .i64 k)] ∧ Hm = [E.HP.map Try.prog 3 3 B1 k D] ∧ (k ≤ l.length ∧ Cf.Dk l k D)) (l.length) ?_ ?_
  · exact ⟨[(9, _)], (by repeat (first | exact E.cov_nil | refine ⟨rfl, ?_⟩)), 0, _, rfl, rfl, rfl, by omega, Cf.Dk_start l⟩
  · rintro _ _ _ ⟨k, D, rfl, rfl, rfl, hk, hD⟩
    refine E.CW.seq ?_
    refine E.CW.region ?_
    refine E.OW.pure rfl rfl rfl (E.PV.lss rfl rfl rfl) ?_
    refine E.OW.nil ?_
    refine E.then_n ?_
    refine E.CW.seq ?_
    refine E.CW.cond rfl (fun hc => ?_) (fun hc => ?_)
    · simp only [E.b0, E.b1, E.b2, E.b3, E.b4, E.b5, E.b6, E.b7, E.b8, E.b9, E.b10, E.b11, E.b12, E.b13, E.b14, E.b15, E.b16, E.b17, E.b18, E.b19, E.b20, reduceCtorEq] at hc
      all_goals (
        refine E.CW.skip ?_
        refine E.then_n ?_
        refine E.CW.seq ?_
        refine E.CW.block ?_
        refine E.CW.seq ?_
        refine E.CW.region ?_
        refine E.OW.pure rfl rfl rfl (E.PV.indexAddr1 (E.rdc hX) Try.underlying31 in3 rfl rfl rfl rfl ?_ ?_) ?_; (focus (first | (simp; done) | (simp; omega))); (focus (omega))
        refine E.OW.pure rfl rfl rfl (E.PV.load_int (E.rdc hX) na3 rfl rfl ?_) ?_; (focus (omega))
        refine E.OW.pure rfl rfl rfl (E.PV.assign rfl rfl) ?_
        refine E.OW.nil ?_
        refine E.then_n ?_
        have hpb := hi64 _ (Fl.getD_mem' (show k < l.length by omega))
        refine E.CW.region ?_
        refine E.OW.pure rfl rfl rfl (E.PV.move rfl rfl) ?_
        refine E.OW.pure rfl rfl rfl (E.PV.move rfl rfl) ?_
        refine E.OW.lookup (i := 0) Try.underlying178 Try.underlying3 Try.underlying3 in3 rfl rfl rfl rfl rfl rfl ?_ rfl (fun cM => ?_); (focus (first | assumption | (exact E.wf_of (by omega)) | exact E.wf_wrap _))
        refine E.OW.pure rfl rfl rfl (E.PV.add rfl rfl rfl) ?_
        refine E.OW.mapUpdate (i := 0) Try.underlying178 Try.underlying3 Try.underlying3 rfl rfl rfl rfl rfl rfl ?_ ?_ ?_ rfl ?_; (focus (first | assumption | (exact E.wf_of (by omega)) | exact E.wf_wrap _)); (focus (first | assumption | (exact E.wf_of (by omega)) | exact E.wf_wrap _)); (focus (unfold maxLen; omega))
        refine E.OW.nil ?_
        refine E.blk_n ?_
        refine E.then_n ?_
        refine E.CW.region ?_
        refine E.OW.pure rfl rfl rfl (E.PV.add_i64 rfl rfl rfl ?_) ?_; (focus (omega))
        refine E.OW.pure rfl rfl rfl (E.PV.move rfl rfl) ?_
        refine E.OW.nil ?_
        refine E.then_nf ?_
        refine ⟨_, [(9, _)], [0], _, ?_, by repeat (first | exact E.cov_nil | refine ⟨rfl, ?_⟩), rfl, k + 1, _, rfl, rfl, rfl, by omega, Cf.Dk_step hD (by omega)⟩
        omega)
    · simp only [E.b0, E.b1, E.b2, E.b3, E.b4, E.b5, E.b6, E.b7, E.b8, E.b9, E.b10, E.b11, E.b12, E.b13, E.b14, E.b15, E.b16, E.b17, E.b18, E.b19, E.b20, reduceCtorEq] at hc
      all_goals (
        refine E.CW.exit ?_
        refine E.then_x ?_
        refine E.then_x ?_
        refine E.blk_eq ?_
        refine E.then_n ?_
        refine E.CW.seq ?_
        refine E.CW.region ?_
        refine E.OW.pure rfl rfl rfl (E.PV.move rfl rfl) ?_
        refine E.OW.pure rfl rfl rfl (E.PV.maplen (i := 0) Try.underlying178 rfl rfl rfl) ?_
        refine E.OW.pure rfl rfl rfl (E.PV.move rfl rfl) ?_
        refine E.OW.pure rfl rfl rfl (E.PV.len Try.underlying31 rfl rfl) ?_
        refine E.OW.pure rfl rfl rfl (E.PV.eql rfl rfl rfl) ?_
        refine E.OW.pure rfl rfl rfl (E.PV.assign rfl rfl) ?_
        refine E.OW.nil ?_
        refine E.then_n ?_
        refine E.CW.ret ?_
        refine E.KR.one [] Try.results140 rfl rfl ?_
        exact ⟨by rw [Cf.Dk_end hD (by omega)], rfl⟩)

set_option maxRecDepth 100000 in
theorem Gr_ok (m : Nat) (w0 : World) (hm : m * 8 ≤ 140737488355328) :
    Calls Try.prog 147 #[.slice none 0 0, .int .i64 (m : Int)] w0 (E.Post w0 (E.Old w0) fun v Hn => ∃ A2 c2, v = .slice A2 0 c2 ∧ Hn = [E.HP.row 3 1 A2 0 c2 []]) := by
  refine E.calls_of (vs := [.slice none 0 0, .int .i64 (m : Int)]) (H := []) Try.func147 Try.ntmps147 rfl rfl (E.HA.start w0) ?_
  refine E.CW.seq ?_
  refine E.CW.region ?_
  refine E.OW.pure rfl rfl rfl (E.PV.assign rfl rfl) ?_
  refine E.OW.nil ?_
  refine E.then_n ?_
  refine E.CW.seq ?_
  refine E.CW.seq ?_
  refine E.CW.region ?_
  refine E.OW.pure rfl rfl rfl (E.PV.move rfl rfl) ?_
  refine E.OW.pure rfl rfl rfl (E.PV.lss rfl rfl rfl) ?_
  refine E.OW.nil ?_
  refine E.then_n ?_
  refine E.CW.cond rfl (fun hc => ?_) (fun hc => ?_)
  · (cases hc; done)
  · simp only [E.b0, E.b1, E.b2, E.b3, E.b4, E.b5, E.b6, E.b7, E.b8, E.b9, E.b10, E.b11, E.b12, E.b13, E.b14, E.b15, E.b16, E.b17, E.b18, E.b19, E.b20, reduceCtorEq] at hc
    all_goals (
      refine E.CW.skip ?_
      refine E.then_n ?_
      refine E.CW.seq ?_
      refine E.CW.seq ?_
      refine E.CW.region ?_
      refine E.OW.pure rfl rfl rfl (E.PV.move rfl rfl) ?_
      refine E.OW.pure rfl rfl rfl (E.PV.move rfl rfl) ?_
      refine E.OW.pure rfl rfl rfl (E.PV.cap Try.underlying31 rfl rfl) ?_
      refine E.OW.pure rfl rfl rfl (E.PV.move rfl rfl) ?_
      refine E.OW.pure rfl rfl rfl (E.PV.len Try.underlying31 rfl rfl) ?_
      refine E.OW.pure rfl rfl rfl (E.PV.sub_i64 rfl rfl rfl ?_) ?_; (focus (omega))
      refine E.OW.pure rfl rfl rfl (E.PV.sub_i64 rfl rfl rfl ?_) ?_; (focus (omega))
      refine E.OW.pure rfl rfl rfl (E.PV.assign rfl rfl) ?_
      refine E.OW.nil ?_
      refine E.then_n ?_
      refine E.CW.seq ?_
      refine E.CW.put 1 (.int .i64 (m : Int)) rfl (by simp) ?_
      refine E.CW.nilrow 3 1 ?_
      refine E.CW.region ?_
      refine E.OW.pure rfl rfl rfl (E.PV.move rfl rfl) ?_
      refine E.OW.pure rfl rfl rfl (E.PV.gtr rfl rfl rfl) ?_
      refine E.OW.nil ?_
      refine E.then_n ?_
      refine E.CW.cond rfl (fun hc => ?_) (fun hc => ?_)
      · simp only [E.b0, E.b1, E.b2, E.b3, E.b4, E.b5, E.b6, E.b7, E.b8, E.b9, E.b10, E.b11, E.b12, E.b13, E.b14, E.b15, E.b16, E.b17, E.b18, E.b19, E.b20, reduceCtorEq] at hc
        all_goals (
          refine E.CW.region ?_
          refine E.OW.pure rfl rfl rfl (E.PV.move rfl rfl) ?_
          refine E.OW.pure rfl rfl rfl (E.PV.move rfl rfl) ?_
          refine E.OW.pure rfl rfl rfl (E.PV.cap Try.underlying31 rfl rfl) ?_
          refine E.OW.cut (i := 0) (h := _) Try.underlying31 in3 rfl rfl rfl rfl rfl rfl rfl ?_ ?_; (focus (omega))
          refine E.OW.pure rfl rfl rfl (E.PV.move rfl rfl) ?_
          refine E.OW.app_zeros (m := m) Try.underlying31 Try.underlying3 in3 rfl rfl rfl rfl rfl rfl rfl rfl ?_ ?_ ?_ (fun A2 c2 zs2 => ?_); (focus (omega)); (focus (unfold maxLen; omega)); (focus (omega))
          refine E.OW.pure rfl rfl rfl (E.PV.move rfl rfl) ?_
          refine E.OW.pure rfl rfl rfl (E.PV.len Try.underlying31 rfl rfl) ?_
          refine E.OW.cut (i := 0) (h := _) Try.underlying31 in3 rfl rfl rfl rfl rfl rfl rfl ?_ ?_; (focus (omega))
          refine E.OW.pure rfl rfl rfl (E.PV.assign rfl rfl) ?_
          refine E.OW.nil ?_
          refine E.then_n ?_
          refine E.CW.seq ?_
          refine E.CW.region ?_
          refine E.OW.pure rfl rfl rfl (E.PV.move rfl rfl) ?_
          refine E.OW.pure rfl rfl rfl (E.PV.assign rfl rfl) ?_
          refine E.OW.nil ?_
          refine E.then_n ?_
          refine E.CW.ret ?_
          refine E.KR.one [0] Try.results147 rfl rfl ?_
          exact ⟨_, _, rfl, rfl⟩)
      · simp only [E.b0, E.b1, E.b2, E.b3, E.b4, E.b5, E.b6, E.b7, E.b8, E.b9, E.b10, E.b11, E.b12, E.b13, E.b14, E.b15, E.b16, E.b17, E.b18, E.b19, E.b20, reduceCtorEq] at hc
        all_goals (
          refine E.CW.skip ?_
          refine E.then_n ?_
          refine E.CW.seq ?_
          refine E.CW.region ?_
          refine E.OW.pure rfl rfl rfl (E.PV.move rfl rfl) ?_
          refine E.OW.pure rfl rfl rfl (E.PV.assign rfl rfl) ?_
          refine E.OW.nil ?_
          refine E.then_n ?_
          refine E.CW.ret ?_
          refine E.KR.one [0] Try.results147 rfl rfl ?_
          exact ⟨_, _, rfl, rfl⟩))

set_option maxRecDepth 100000 in
theorem Cc_ok (A : Option Addr) (c : Nat) (ss : List E.Sl) (w0 : World) (hl : ss.length ≤ 100) (hX : E.Rd w0 (E.Old w0) A (E.sls ss)) (hs : ∀ s ∈ ss, E.Rd w0 (E.Old w0) s.A (E.ints s.l)) (hf : (E.flat ss ss.length).length * 8 ≤ 140737488355328) :
    Calls Try.prog 125 #[.slice A ss.length c] w0 (E.Post w0 (E.Old w0) fun v Hn => ∃ A2 c2, v = .slice A2 (E.flat ss ss.length).length c2 ∧ Hn = [E.HP.row 3 1 A2 (E.flat ss ss.length).length c2 (E.ints (E.flat ss ss.length))]) := by
  refine E.calls_of (vs := [.slice A ss.length c]) (H := []) Try.func125 Try.ntmps125 rfl rfl (E.HA.start w0) ?_
  refine E.CW.seq ?_
  refine E.CW.region ?_
  refine E.OW.pure rfl rfl rfl (E.PV.assign rfl rfl) ?_
  refine E.OW.nil ?_
  refine E.then_n ?_
  refine E.CW.seq ?_
  refine E.CW.region ?_
  refine E.OW.pure rfl rfl rfl (E.PV.assign rfl rfl) ?_
  refine E.OW.nil ?_
  refine E.then_n ?_
  refine E.CW.seq ?_
  refine E.CW.seq ?_
  refine E.CW.region ?_
  refine E.OW.pure rfl rfl rfl (E.PV.move rfl rfl) ?_
  refine E.OW.pure rfl rfl rfl (E.PV.len Try.underlying91 rfl rfl) ?_
  refine E.OW.pure rfl rfl rfl (E.PV.move rfl rfl) ?_
  refine E.OW.nil ?_
  refine E.then_n ?_
  refine E.CW.block ?_
  refine E.CW.loopk [0, 9, 10] 0 rfl rfl (fun mm mods Hm => ∃ k : Nat, mm = ss.length - k ∧ mods = [(3, .int .i64 ((E.flat ss k).length : Int)), (11, .int .i64 k)] ∧ Hm = [] ∧ k ≤ ss.length) (ss.length) ?_ ?_
  · exact ⟨[(3, _), (11, _)], (by repeat (first | exact E.cov_nil | refine ⟨rfl, ?_⟩)), 0, rfl, by rw [E.flat_zero]; rfl, rfl, by omega⟩
  · rintro _ _ _ ⟨k, rfl, rfl, rfl, hk⟩
    refine E.CW.seq ?_
    refine E.CW.region ?_
    refine E.OW.pure rfl rfl rfl (E.PV.lss rfl rfl rfl) ?_
    refine E.OW.nil ?_
    refine E.then_n ?_
    refine E.CW.seq ?_
    refine E.CW.cond rfl (fun hc => ?_) (fun hc => ?_)
    · simp only [E.b0, E.b1, E.b2, E.b3, E.b4, E.b5, E.b6, E.b7, E.b8, E.b9, E.b10, E.b11, E.b12, E.b13, E.b14, E.b15, E.b16, E.b17, E.b18, E.b19, E.b20, reduceCtorEq] at hc
      all_goals (
        refine E.CW.skip ?_
        refine E.then_n ?_
        refine E.CW.seq ?_
        refine E.CW.block ?_
        refine E.CW.seq ?_
        have hsk := hs _ (E.Sl.mem (show k < ss.length by omega))
        have hfl := E.flat_le ss (k + 1)
        have hfs := E.flat_succ (show k < ss.length by omega)
        have hfn : (E.flat ss (k + 1)).length = (E.flat ss k).length + (ss.getD k E.Sl.z).l.length := by rw [hfs, List.length_append]
        refine E.CW.region ?_
        refine E.OW.pure rfl rfl rfl (E.PV.indexAddr1 (E.rdc hX) Try.underlying91 in31 rfl rfl rfl rfl ?_ ?_) ?_; (focus (first | (simp; done) | (simp; omega))); (focus (omega))
        refine E.OW.pure rfl rfl rfl (E.PV.load_sl (E.rdc hX) na31 rfl rfl ?_) ?_; (focus (omega))
        refine E.OW.pure rfl rfl rfl (E.PV.assign rfl rfl) ?_
        refine E.OW.nil ?_
        refine E.then_n ?_
        refine E.CW.seq ?_
        refine E.CW.region ?_
        refine E.OW.pure rfl rfl rfl (E.PV.move rfl rfl) ?_
        refine E.OW.pure rfl rfl rfl (E.PV.move rfl rfl) ?_
        refine E.OW.pure rfl rfl rfl (E.PV.len Try.underlying31 rfl rfl) ?_
        refine E.OW.pure rfl rfl rfl (E.PV.add_i64 rfl rfl rfl ?_) ?_; (focus (omega))
        refine E.OW.pure rfl rfl rfl (E.PV.assign rfl rfl) ?_
        refine E.OW.nil ?_
        refine E.then_n ?_
        refine E.CW.seq ?_
        refine E.CW.region ?_
        refine E.OW.pure rfl rfl rfl (E.PV.move rfl rfl) ?_
        refine E.OW.pure rfl rfl rfl (E.PV.lss rfl rfl rfl) ?_
        refine E.OW.nil ?_
        refine E.then_n ?_
        refine E.CW.cond rfl (fun hc => ?_) (fun hc => ?_)
        · (cases hc; done)
        · simp only [E.b0, E.b1, E.b2, E.b3, E.b4, E.b5, E.b6, E.b7, E.b8, E.b9, E.b10, E.b11, E.b12, E.b13, E.b14, E.b15, E.b16, E.b17, E.b18, E.b19, E.b20, reduceCtorEq] at hc
          all_goals (
            refine E.CW.skip ?_
            refine E.blk_n ?_
            refine E.then_n ?_
            refine E.CW.region ?_
            refine E.OW.pure rfl rfl rfl (E.PV.add_i64 rfl rfl rfl ?_) ?_; (focus (omega))
            refine E.OW.pure rfl rfl rfl (E.PV.move rfl rfl) ?_
            refine E.OW.nil ?_
            refine E.then_nf ?_
            refine ⟨_, [(3, _), (11, _)], [], _, ?_, by repeat (first | exact E.cov_nil | refine ⟨rfl, ?_⟩), rfl, k + 1, rfl, by rw [hfn]; rfl, rfl, by omega⟩
            omega))
    · simp only [E.b0, E.b1, E.b2, E.b3, E.b4, E.b5, E.b6, E.b7, E.b8, E.b9, E.b10, E.b11, E.b12, E.b13, E.b14, E.b15, E.b16, E.b17, E.b18, E.b19, E.b20, reduceCtorEq] at hc
      all_goals (
        refine E.CW.exit ?_
        refine E.then_x ?_
        refine E.then_x ?_
        refine E.blk_eq ?_
        refine E.then_n ?_
        refine E.CW.seq ?_
        obtain rfl : k = ss.length := by omega
        refine E.CW.region ?_
        refine E.OW.pure rfl rfl rfl (E.PV.move rfl rfl) ?_
        (refine E.OW.call nm147 rfl rfl rfl rfl rfl rfl _ (fun w hw => Gr_ok _ w ?_) ?_; (focus (assumption)); rintro _ _ ⟨AG, cG, rfl, rfl⟩)
        refine E.OW.pure rfl rfl rfl (E.PV.assign rfl rfl) ?_
        refine E.OW.nil ?_
        refine E.then_n ?_
        refine E.CW.seq ?_
        refine E.CW.seq ?_
        refine E.CW.region ?_
        refine E.OW.pure rfl rfl rfl (E.PV.move rfl rfl) ?_
        refine E.OW.pure rfl rfl rfl (E.PV.len Try.underlying91 rfl rfl) ?_
        refine E.OW.pure rfl rfl rfl (E.PV.move rfl rfl) ?_
        refine E.OW.nil ?_
        refine E.then_n ?_
        refine E.CW.block ?_
        refine E.CW.loopk [25, 26] 1 rfl rfl (fun mm mods Hm => ∃ k : Nat, ∃ D : Option Addr, ∃ e : Nat, mm = ss.length - k ∧ mods = [(27, .int .i64 k), (6, .slice D (E.flat ss k).length e)] ∧ Hm = [E.HP.row 3 1 D (E.flat ss k).length e (E.ints (E.flat ss k))] ∧ k ≤ ss.length) (ss.length) ?_ ?_
        · exact ⟨[(27, _), (6, _)], (by repeat (first | exact E.cov_nil | refine ⟨rfl, ?_⟩)), 0, _, _, rfl, by rw [E.flat_zero]; rfl, by rw [E.flat_zero]; rfl, by omega⟩
        · rintro _ _ _ ⟨k, D, e, rfl, rfl, rfl, hk⟩
          refine E.CW.seq ?_
          refine E.CW.region ?_
          refine E.OW.pure rfl rfl rfl (E.PV.lss rfl rfl rfl) ?_
          refine E.OW.nil ?_
          refine E.then_n ?_
          refine E.CW.seq ?_
          refine E.CW.cond rfl (fun hc => ?_) (fun hc => ?_)
          · simp only [E.b0, E.b1, E.b2, E.b3, E.b4, E.b5, E.b6, E.b7, E.b8, E.b9, E.b10, E.b11, E.b12, E.b13, E.b14, E.b15, E.b16, E.b17, E.b18, E.b19, E.b20, reduceCtorEq] at hc
            all_goals (
              refine E.CW.skip ?_
              refine E.then_n ?_
              refine E.CW.seq ?_
              refine E.CW.block ?_
              refine E.CW.seq ?_
              have hsk := hs _ (E.Sl.mem (show k < ss.length by omega))
              have hfl := E.flat_le ss (k + 1)
              have hfs := E.flat_succ (show k < ss.length by omega)
              have hfn : (E.flat ss (k + 1)).length = (E.flat ss k).length + (ss.getD k E.Sl.z).l.length := by rw [hfs, List.length_append]
              refine E.CW.region ?_
              refine E.OW.pure rfl rfl rfl (E.PV.indexAddr1 (E.rdc hX) Try.underlying91 in31 rfl rfl rfl rfl ?_ ?_) ?_; (focus (first | (simp; done) | (simp; omega))); (focus (omega))
              refine E.OW.pure rfl rfl rfl (E.PV.load_sl (E.rdc hX) na31 rfl rfl ?_) ?_; (focus (omega))
              refine E.OW.pure rfl rfl rfl (E.PV.assign rfl rfl) ?_
              refine E.OW.nil ?_
              refine E.then_n ?_
              refine E.CW.region ?_
              refine E.OW.pure rfl rfl rfl (E.PV.move rfl rfl) ?_
              refine E.OW.pure rfl rfl rfl (E.PV.move rfl rfl) ?_
              refine E.OW.app_ints (i := 0) Try.underlying31 in3 rfl rfl rfl rfl rfl rfl rfl rfl rfl (E.rdc hsk) ?_ (fun A1 c1 => ?_); (focus ((first | omega | (simp only [List.length_append, List.length_cons, List.length_nil] at *; omega) | (unfold maxLen at *; omega))))
              refine E.OW.pure rfl rfl rfl (E.PV.assign rfl rfl) ?_
              refine E.OW.nil ?_
              refine E.blk_n ?_
              refine E.then_n ?_
              refine E.CW.region ?_
              refine E.OW.pure rfl rfl rfl (E.PV.add_i64 rfl rfl rfl ?_) ?_; (focus (omega))
              refine E.OW.pure rfl rfl rfl (E.PV.move rfl rfl) ?_
              refine E.OW.nil ?_
              refine E.then_nf ?_
              refine ⟨_, [(27, _), (6, _)], [0], _, ?_, by repeat (first | exact E.cov_nil | refine ⟨rfl, ?_⟩), rfl, k + 1, _, _, rfl, by rw [hfs]; rfl, by rw [hfs], by omega⟩
              omega)
          · simp only [E.b0, E.b1, E.b2, E.b3, E.b4, E.b5, E.b6, E.b7, E.b8, E.b9, E.b10, E.b11, E.b12, E.b13, E.b14, E.b15, E.b16, E.b17, E.b18, E.b19, E.b20, reduceCtorEq] at hc
            all_goals (
              refine E.CW.exit ?_
              refine E.then_x ?_
              refine E.then_x ?_
              refine E.blk_eq ?_
              refine E.then_n ?_
              refine E.CW.seq ?_
              refine E.CW.region ?_
              refine E.OW.pure rfl rfl rfl (E.PV.move rfl rfl) ?_
              refine E.OW.pure rfl rfl rfl (E.PV.assign rfl rfl) ?_
              refine E.OW.nil ?_
              refine E.then_n ?_
              refine E.CW.ret ?_
              refine E.KR.one [0] Try.results125 rfl rfl ?_
              obtain rfl : k = ss.length := by omega
              exact ⟨_, _, rfl, rfl⟩))

set_option maxRecDepth 100000 in
theorem Sp_ok (m : E.Tm) (w0 : World) (hm : m.rd w0 (E.Old w0)) (hf : m.q.fit) (h8 : (Cf.spots m.q).length * 8 ≤ 140737488355328) :
    Calls Try.prog 100 #[m.v] w0 (E.Post w0 (E.Old w0) fun v Hn => ∃ A2 c2, v = .slice A2 (Cf.spots m.q).length c2 ∧ Hn = [E.HP.row 3 1 A2 (Cf.spots m.q).length c2 (E.ints (Cf.spots m.q))]) := by
  obtain ⟨hX, hY, hZ⟩ := id hm
  have hs1 := hf.h
  have hs2 := hf.p
  have hs3 := hf.d
  have hsl := Cf.spots_len m.q
  have hfl : E.flat [⟨m.A1, m.c1, m.q.h⟩, ⟨m.A2, m.c2, m.q.p⟩, ⟨m.A3, m.c3, m.q.d⟩] 3 = Cf.spots m.q := by simp [E.flat, Cf.spots]
  refine E.calls_of (vs := [m.v]) (H := []) Try.func100 Try.ntmps100 rfl rfl (E.HA.start w0) ?_
  refine E.CW.seq ?_
  refine E.CW.region ?_
  refine E.OW.box rfl rfl rfl rfl rfl rfl (fun B1 => ?_)
  refine E.OW.pure rfl rfl rfl (E.PV.assign rfl rfl) ?_
  refine E.OW.nil ?_
  refine E.then_n ?_
  refine E.CW.seq ?_
  refine E.CW.region ?_
  refine E.OW.pure rfl rfl rfl (E.PV.fieldAddr fa79_0 rfl rfl) ?_
  refine E.OW.pure rfl rfl rfl (E.PV.load (i := 0) na31 rfl rfl rfl rfl) ?_
  refine E.OW.pure rfl rfl rfl (E.PV.fieldAddr fa79_1 rfl rfl) ?_
  refine E.OW.pure rfl rfl rfl (E.PV.load (i := 0) na31 rfl rfl rfl rfl) ?_
  refine E.OW.pure rfl rfl rfl (E.PV.fieldAddr fa79_2 rfl rfl) ?_
  refine E.OW.pure rfl rfl rfl (E.PV.load (i := 0) na31 rfl rfl rfl rfl) ?_
  refine E.OW.buildSlice (Et := 31) (sz := 1) (cs := E.sls [⟨m.A1, m.c1, m.q.h⟩, ⟨m.A2, m.c2, m.q.p⟩, ⟨m.A3, m.c3, m.q.d⟩]) (ps := [(0, .tmp 4), (1, .tmp 6), (2, .tmp 8)]) rfl rfl rfl rfl rfl (by simp) (by unfold maxLen; omega) (fun w => bsl91_3_0_1_2 _ _ _ _ _ _ _ _ _ w) (fun AL => ?_)
  (refine E.OW.call nm125 rfl rfl rfl rfl rfl rfl _ (fun w hw => Cc_ok _ _ [⟨m.A1, m.c1, m.q.h⟩, ⟨m.A2, m.c2, m.q.p⟩, ⟨m.A3, m.c3, m.q.d⟩] w (by simp) ?_ (fun s hs => by simp only [List.mem_cons, List.not_mem_nil, or_false] at hs; rcases hs with rfl | rfl | rfl; exact hw.rd hX; exact hw.rd hY; exact hw.rd hZ) (by show (E.flat _ 3).length * 8 ≤ _; rw [hfl]; exact h8)) ?_; (focus (exact hw.rdrow (i := 0) rfl)); rintro _ _ ⟨AS, cS, rfl, rfl⟩)
  refine E.OW.pure rfl rfl rfl (E.PV.assign rfl rfl) ?_
  refine E.OW.nil ?_
  refine E.then_n ?_
  refine E.CW.ret ?_
  refine E.KR.one [0] Try.results100 rfl rfl ?_
  rw [← hfl]
  exact ⟨_, _, rfl, rfl⟩

set_option maxRecDepth 100000 in
theorem rSp_ok (m : E.Tm) (w0 : World) (hm : m.rd w0 (E.Old w0)) (hf : m.q.fit) (h8 : (Cf.spots m.q).length * 8 ≤ 140737488355328) :
    Calls Try.prog 109 #[m.v] w0 (E.Post w0 (E.Old w0) fun v Hn => ∃ A2 c2, v = .slice A2 (Cf.spots m.q).length c2 ∧ Hn = [E.HP.row 3 1 A2 (Cf.spots m.q).length c2 (E.ints (Cf.spots m.q))]) := by
  obtain ⟨hX, hY, hZ⟩ := id hm
  have hs1 := hf.h
  have hs2 := hf.p
  have hs3 := hf.d
  have hsl := Cf.spots_len m.q
  refine E.calls_of (vs := [m.v]) (H := []) Try.func109 Try.ntmps109 rfl rfl (E.HA.start w0) ?_
  refine E.CW.seq ?_
  refine E.CW.region ?_
  refine E.OW.box rfl rfl rfl rfl rfl rfl (fun B1 => ?_)
  refine E.OW.pure rfl rfl rfl (E.PV.assign rfl rfl) ?_
  refine E.OW.nil ?_
  refine E.then_n ?_
  refine E.CW.seq ?_
  refine E.CW.nilrow 3 1 ?_
  refine E.CW.region ?_
  refine E.OW.pure rfl rfl rfl (E.PV.assign rfl rfl) ?_
  refine E.OW.nil ?_
  refine E.then_n ?_
  refine E.CW.seq ?_
  refine E.CW.region ?_
  refine E.OW.pure rfl rfl rfl (E.PV.move rfl rfl) ?_
  refine E.OW.pure rfl rfl rfl (E.PV.fieldAddr fa79_0 rfl rfl) ?_
  refine E.OW.pure rfl rfl rfl (E.PV.load (i := 1) na31 rfl rfl rfl rfl) ?_
  refine E.OW.append0 (i := 0) Try.underlying31 in3 rfl rfl (by decide) rfl rfl rfl rfl rfl rfl rfl (E.rdc hX) ?_ ?_ ?_ ?_ (fun A2 c2 => ?_); (focus ((first | rfl | (simp; done) | omega))); (focus ((first | exact E.ints_one | exact E.u8s_one | (simp [Value.oneCell']; done)))); (focus ((unfold maxLen; omega))); (focus ((first | omega | (simp only [List.length_append, List.length_cons, List.length_nil] at *; omega) | (unfold maxLen at *; omega))))
  refine E.OW.pure rfl rfl rfl (E.PV.assign rfl rfl) ?_
  refine E.OW.nil ?_
  refine E.then_n ?_
  refine E.CW.seq ?_
  refine E.CW.region ?_
  refine E.OW.pure rfl rfl rfl (E.PV.move rfl rfl) ?_
  refine E.OW.pure rfl rfl rfl (E.PV.fieldAddr fa79_1 rfl rfl) ?_
  refine E.OW.pure rfl rfl rfl (E.PV.load (i := 1) na31 rfl rfl rfl rfl) ?_
  refine E.OW.app_ints (i := 0) Try.underlying31 in3 rfl rfl rfl rfl rfl rfl rfl rfl rfl (E.rdc hY) ?_ (fun A3 c3 => ?_); (focus ((first | omega | (simp only [List.length_append, List.length_cons, List.length_nil] at *; omega) | (unfold maxLen at *; omega))))
  refine E.OW.pure rfl rfl rfl (E.PV.assign rfl rfl) ?_
  refine E.OW.nil ?_
  refine E.then_n ?_
  refine E.CW.seq ?_
  refine E.CW.region ?_
  refine E.OW.pure rfl rfl rfl (E.PV.move rfl rfl) ?_
  refine E.OW.pure rfl rfl rfl (E.PV.fieldAddr fa79_2 rfl rfl) ?_
  refine E.OW.pure rfl rfl rfl (E.PV.load (i := 1) na31 rfl rfl rfl rfl) ?_
  refine E.OW.app_ints (i := 0) Try.underlying31 in3 rfl rfl rfl rfl rfl rfl rfl rfl rfl (E.rdc hZ) ?_ (fun A4 c4 => ?_); (focus ((first | omega | (simp only [List.length_append, List.length_cons, List.length_nil] at *; omega) | (unfold maxLen at *; omega))))
  refine E.OW.pure rfl rfl rfl (E.PV.assign rfl rfl) ?_
  refine E.OW.nil ?_
  refine E.then_n ?_
  refine E.CW.ret ?_
  refine E.KR.one [0] Try.results109 rfl rfl ?_
  exact ⟨_, _, rfl, rfl⟩

set_option maxRecDepth 100000 in
theorem Ab_ok (m : E.Tm) (w0 : World) (hm : m.rd w0 (E.Old w0)) (hf : m.q.fit) :
    Calls Try.prog 123 #[m.v] w0 (E.Post w0 (E.Old w0) fun v Hn => v = .bool (Cf.absent m.q) ∧ Hn = []) := by
  refine E.calls_of (vs := [m.v]) (H := []) Try.func123 Try.ntmps123 rfl rfl (E.HA.start w0) ?_
  refine E.CW.seq ?_
  refine E.CW.region ?_
  refine E.OW.box rfl rfl rfl rfl rfl rfl (fun B1 => ?_)
  refine E.OW.pure rfl rfl rfl (E.PV.assign rfl rfl) ?_
  refine E.OW.nil ?_
  refine E.then_n ?_
  refine E.CW.seq ?_
  refine E.CW.region ?_
  refine E.OW.pure rfl rfl rfl (E.PV.loads (i := 0) is79 rfl rfl rfl rfl) ?_
  refine E.OW.pure rfl rfl rfl (E.PV.build (ps := []) rfl rfl (fun w => bld79_ w)) ?_
  (refine E.OW.call nm146 rfl rfl rfl rfl rfl rfl _ (fun w hw => sameTeam_ok m E.Tm.z w ?_ (E.Tm.z_rd _ _) ?_ Cf.T.z_fit) ?_; (focus (refine hw.rdm ?_; assumption)); (focus (assumption)); rintro _ _ ⟨rfl, rfl⟩)
  refine E.OW.pure rfl rfl rfl (E.PV.assign rfl rfl) ?_
  refine E.OW.nil ?_
  refine E.then_n ?_
  refine E.CW.ret ?_
  refine E.KR.one [] Try.results123 rfl rfl ?_
  exact ⟨rfl, rfl⟩

set_option maxRecDepth 100000 in
theorem rAb_ok (m : E.Tm) (w0 : World) (hm : m.rd w0 (E.Old w0)) (hf : m.q.fit) :
    Calls Try.prog 131 #[m.v] w0 (E.Post w0 (E.Old w0) fun v Hn => v = .bool (Cf.absent m.q) ∧ Hn = []) := by
  obtain ⟨hX, hY, hZ⟩ := id hm
  have hs1 := hf.h
  have hs2 := hf.p
  have hs3 := hf.d
  have hsl := Cf.spots_len m.q
  refine E.calls_of (vs := [m.v]) (H := []) Try.func131 Try.ntmps131 rfl rfl (E.HA.start w0) ?_
  refine E.CW.seq ?_
  refine E.CW.region ?_
  refine E.OW.box rfl rfl rfl rfl rfl rfl (fun B1 => ?_)
  refine E.OW.pure rfl rfl rfl (E.PV.assign rfl rfl) ?_
  refine E.OW.nil ?_
  refine E.then_n ?_
  refine E.CW.seq ?_
  refine E.CW.region ?_
  refine E.OW.pure rfl rfl rfl (E.PV.fieldAddr fa79_0 rfl rfl) ?_
  refine E.OW.pure rfl rfl rfl (E.PV.load (i := 0) na31 rfl rfl rfl rfl) ?_
  refine E.OW.pure rfl rfl rfl (E.PV.len Try.underlying31 rfl rfl) ?_
  refine E.OW.pure rfl rfl rfl (E.PV.fieldAddr fa79_1 rfl rfl) ?_
  refine E.OW.pure rfl rfl rfl (E.PV.load (i := 0) na31 rfl rfl rfl rfl) ?_
  refine E.OW.pure rfl rfl rfl (E.PV.len Try.underlying31 rfl rfl) ?_
  refine E.OW.pure rfl rfl rfl (E.PV.add_i64 rfl rfl rfl ?_) ?_; (focus (omega))
  refine E.OW.pure rfl rfl rfl (E.PV.fieldAddr fa79_2 rfl rfl) ?_
  refine E.OW.pure rfl rfl rfl (E.PV.load (i := 0) na31 rfl rfl rfl rfl) ?_
  refine E.OW.pure rfl rfl rfl (E.PV.len Try.underlying31 rfl rfl) ?_
  refine E.OW.pure rfl rfl rfl (E.PV.add_i64 rfl rfl rfl ?_) ?_; (focus (omega))
  refine E.OW.pure rfl rfl rfl (E.PV.eql rfl rfl rfl) ?_
  refine E.OW.pure rfl rfl rfl (E.PV.move rfl rfl) ?_
  all_goals (refine E.OW.split 15 rfl (fun hc => ?_) (fun hc => ?_) <;> (try simp only [E.b0, E.b1, E.b2, E.b3, E.b4, E.b5, E.b6, E.b7, E.b8, E.b9, E.b10, E.b11, E.b12, E.b13, E.b14, E.b15, E.b16, E.b17, E.b18, E.b19, E.b20, reduceCtorEq] at hc) <;> (try (exfalso; first | assumption | contradiction | omega)))
  all_goals (first | (refine E.OW.off rfl rfl rfl ?_) | (refine E.OW.pure rfl rfl rfl (E.PV.fieldAddr fa79_3 rfl rfl) ?_))
  all_goals (first | (refine E.OW.off rfl rfl rfl ?_) | (refine E.OW.pure rfl rfl rfl (E.PV.load (i := 0) na3 rfl rfl rfl rfl) ?_))
  all_goals (first | (refine E.OW.off rfl rfl rfl ?_) | (refine E.OW.pure rfl rfl rfl (E.PV.eql rfl rfl rfl) ?_))
  all_goals (first | (refine E.OW.pure rfl rfl rfl (E.PV.pick_t rfl rfl rfl) ?_) | (refine E.OW.pure rfl rfl rfl (E.PV.pick_f rfl rfl rfl) ?_))
  all_goals (refine E.OW.pure rfl rfl rfl (E.PV.move rfl rfl) ?_)
  all_goals (first | (refine E.OW.put 20 (.bool false) (v := .bool false) rfl rfl ?_) | (refine E.OW.split 20 rfl (fun hc => ?_) (fun hc => ?_) <;> (try simp only [E.b0, E.b1, E.b2, E.b3, E.b4, E.b5, E.b6, E.b7, E.b8, E.b9, E.b10, E.b11, E.b12, E.b13, E.b14, E.b15, E.b16, E.b17, E.b18, E.b19, E.b20, reduceCtorEq] at hc) <;> (try (exfalso; first | assumption | contradiction | omega))))
  all_goals (first | (refine E.OW.off rfl rfl rfl ?_) | (refine E.OW.pure rfl rfl rfl (E.PV.fieldAddr fa79_4 rfl rfl) ?_))
  all_goals (first | (refine E.OW.off rfl rfl rfl ?_) | (refine E.OW.pure rfl rfl rfl (E.PV.load (i := 0) na3 rfl rfl rfl rfl) ?_))
  all_goals (first | (refine E.OW.off rfl rfl rfl ?_) | (refine E.OW.pure rfl rfl rfl (E.PV.eql rfl rfl rfl) ?_))
  all_goals (first | (refine E.OW.pure rfl rfl rfl (E.PV.pick_t rfl rfl rfl) ?_) | (refine E.OW.pure rfl rfl rfl (E.PV.pick_f rfl rfl rfl) ?_))
  all_goals (refine E.OW.pure rfl rfl rfl (E.PV.move rfl rfl) ?_)
  all_goals (first | (refine E.OW.put 25 (.bool false) (v := .bool false) rfl rfl ?_) | (refine E.OW.split 25 rfl (fun hc => ?_) (fun hc => ?_) <;> (try simp only [E.b0, E.b1, E.b2, E.b3, E.b4, E.b5, E.b6, E.b7, E.b8, E.b9, E.b10, E.b11, E.b12, E.b13, E.b14, E.b15, E.b16, E.b17, E.b18, E.b19, E.b20, reduceCtorEq] at hc) <;> (try (exfalso; first | assumption | contradiction | omega))))
  all_goals (first | (refine E.OW.off rfl rfl rfl ?_) | (refine E.OW.pure rfl rfl rfl (E.PV.fieldAddr fa79_5 rfl rfl) ?_))
  all_goals (first | (refine E.OW.off rfl rfl rfl ?_) | (refine E.OW.pure rfl rfl rfl (E.PV.load (i := 0) na3 rfl rfl rfl rfl) ?_))
  all_goals (first | (refine E.OW.off rfl rfl rfl ?_) | (refine E.OW.pure rfl rfl rfl (E.PV.eql rfl rfl rfl) ?_))
  all_goals (first | (refine E.OW.pure rfl rfl rfl (E.PV.pick_t rfl rfl rfl) ?_) | (refine E.OW.pure rfl rfl rfl (E.PV.pick_f rfl rfl rfl) ?_))
  all_goals (refine E.OW.pure rfl rfl rfl (E.PV.move rfl rfl) ?_)
  all_goals (first | (refine E.OW.put 30 (.bool false) (v := .bool false) rfl rfl ?_) | (refine E.OW.split 30 rfl (fun hc => ?_) (fun hc => ?_) <;> (try simp only [E.b0, E.b1, E.b2, E.b3, E.b4, E.b5, E.b6, E.b7, E.b8, E.b9, E.b10, E.b11, E.b12, E.b13, E.b14, E.b15, E.b16, E.b17, E.b18, E.b19, E.b20, reduceCtorEq] at hc) <;> (try (exfalso; first | assumption | contradiction | omega))))
  all_goals (first | (refine E.OW.off rfl rfl rfl ?_) | (refine E.OW.pure rfl rfl rfl (E.PV.fieldAddr fa79_6 rfl rfl) ?_))
  all_goals (first | (refine E.OW.off rfl rfl rfl ?_) | (refine E.OW.pure rfl rfl rfl (E.PV.load (i := 0) na3 rfl rfl rfl rfl) ?_))
  all_goals (first | (refine E.OW.off rfl rfl rfl ?_) | (refine E.OW.pure rfl rfl rfl (E.PV.eql rfl rfl rfl) ?_))
  all_goals (first | (refine E.OW.pure rfl rfl rfl (E.PV.pick_t rfl rfl rfl) ?_) | (refine E.OW.pure rfl rfl rfl (E.PV.pick_f rfl rfl rfl) ?_))
  all_goals (refine E.OW.pure rfl rfl rfl (E.PV.move rfl rfl) ?_)
  all_goals (first | (refine E.OW.put 35 (.bool false) (v := .bool false) rfl rfl ?_) | (refine E.OW.split 35 rfl (fun hc => ?_) (fun hc => ?_) <;> (try simp only [E.b0, E.b1, E.b2, E.b3, E.b4, E.b5, E.b6, E.b7, E.b8, E.b9, E.b10, E.b11, E.b12, E.b13, E.b14, E.b15, E.b16, E.b17, E.b18, E.b19, E.b20, reduceCtorEq] at hc) <;> (try (exfalso; first | assumption | contradiction | omega))))
  all_goals (first | (refine E.OW.off rfl rfl rfl ?_) | (refine E.OW.pure rfl rfl rfl (E.PV.fieldAddr fa79_7 rfl rfl) ?_))
  all_goals (first | (refine E.OW.off rfl rfl rfl ?_) | (refine E.OW.pure rfl rfl rfl (E.PV.load (i := 0) na3 rfl rfl rfl rfl) ?_))
  all_goals (first | (refine E.OW.off rfl rfl rfl ?_) | (refine E.OW.pure rfl rfl rfl (E.PV.eql rfl rfl rfl) ?_))
  all_goals (first | (refine E.OW.pure rfl rfl rfl (E.PV.pick_t rfl rfl rfl) ?_) | (refine E.OW.pure rfl rfl rfl (E.PV.pick_f rfl rfl rfl) ?_))
  all_goals (refine E.OW.pure rfl rfl rfl (E.PV.assign rfl rfl) ?_)
  all_goals (
    refine E.OW.nil ?_
    refine E.then_n ?_
    refine E.CW.ret ?_
    refine E.KR.one [] Try.results131 rfl rfl ?_
    exact ⟨by rw [← Cf.absent_eq]; simp_all, rfl⟩)

set_option maxRecDepth 100000 in
theorem Wi_ok (A : Option Addr) (c : Nat) (ps : List (Int × Int)) (w0 : World) (hl : ps.length ≤ 100) (hX : E.Rd w0 (E.Old w0) A (E.pairs ps)) :
    Calls Try.prog 136 #[.slice A ps.length c] w0 (E.Post w0 (E.Old w0) fun v Hn => v = .bool (ps.all fun x => Cf.btw x.1 x.2) ∧ Hn = []) := by
  refine E.calls_of (vs := [.slice A ps.length c]) (H := []) Try.func136 Try.ntmps136 rfl rfl (E.HA.start w0) ?_
  refine E.CW.seq ?_
  refine E.CW.region ?_
  refine E.OW.pure rfl rfl rfl (E.PV.assign rfl rfl) ?_
  refine E.OW.nil ?_
  refine E.then_n ?_
  refine E.CW.seq ?_
  refine E.CW.seq ?_
  refine E.CW.region ?_
  refine E.OW.pure rfl rfl rfl (E.PV.move rfl rfl) ?_
  refine E.OW.pure rfl rfl rfl (E.PV.len Try.underlying175 rfl rfl) ?_
  refine E.OW.pure rfl rfl rfl (E.PV.move rfl rfl) ?_
  refine E.OW.nil ?_
  refine E.then_n ?_
  refine E.CW.block ?_
  refine E.CW.loopk [5, 6] 0 rfl rfl (fun mm mods Hm => ∃ k : Nat, mm = ps.length - k ∧ mods = [(7, .int .i64 k)] ∧ Hm = [] ∧ (k ≤ ps.length ∧ ∀ j, j < k → Cf.btw (ps.getD j (0, 0)).1 (ps.getD j (0, 0)).2 = true)) (ps.length) ?_ ?_
  · exact ⟨[(7, _)], (by repeat (first | exact E.cov_nil | refine ⟨rfl, ?_⟩)), 0, rfl, rfl, rfl, by omega, fun j hj => by omega⟩
  · rintro _ _ _ ⟨k, rfl, rfl, rfl, hk, hI⟩
    refine E.CW.seq ?_
    refine E.CW.region ?_
    refine E.OW.pure rfl rfl rfl (E.PV.lss rfl rfl rfl) ?_
    refine E.OW.nil ?_
    refine E.then_n ?_
    refine E.CW.seq ?_
    refine E.CW.cond rfl (fun hc => ?_) (fun hc => ?_)
    · simp only [E.b0, E.b1, E.b2, E.b3, E.b4, E.b5, E.b6, E.b7, E.b8, E.b9, E.b10, E.b11, E.b12, E.b13, E.b14, E.b15, E.b16, E.b17, E.b18, E.b19, E.b20, reduceCtorEq] at hc
      all_goals (
        refine E.CW.skip ?_
        refine E.then_n ?_
        refine E.CW.seq ?_
        refine E.CW.block ?_
        refine E.CW.seq ?_
        refine E.CW.region ?_
        refine E.OW.pure rfl rfl rfl (E.PV.indexAddr (E.rdc hX) Try.underlying175 in164 rfl rfl rfl rfl ?_ ?_ (by decide)) ?_; (focus (first | (simp; done) | (simp; omega))); (focus (omega))
        refine E.OW.pure rfl rfl rfl (E.PV.load_pair (E.rdc hX) is164 rfl rfl ?_) ?_; (focus (omega))
        refine E.OW.alloc (in164.zr) rfl rfl rfl rfl rfl (fun B1 => ?_)
        refine E.OW.store (i := 0) in164.size rfl rfl rfl rfl rfl rfl rfl rfl rfl ?_
        refine E.OW.nil ?_
        refine E.then_n ?_
        refine E.CW.seq ?_
        refine E.CW.region ?_
        refine E.OW.pure rfl rfl rfl (E.PV.fieldAddr fa164_0 rfl rfl) ?_
        refine E.OW.pure rfl rfl rfl (E.PV.load (i := 0) na3 rfl rfl rfl rfl) ?_
        refine E.OW.pure rfl rfl rfl (E.PV.lss rfl rfl rfl) ?_
        refine E.OW.pure rfl rfl rfl (E.PV.move rfl rfl) ?_
        all_goals (refine E.OW.split 14 rfl (fun hc => ?_) (fun hc => ?_) <;> (try simp only [E.b0, E.b1, E.b2, E.b3, E.b4, E.b5, E.b6, E.b7, E.b8, E.b9, E.b10, E.b11, E.b12, E.b13, E.b14, E.b15, E.b16, E.b17, E.b18, E.b19, E.b20, reduceCtorEq] at hc) <;> (try (exfalso; first | assumption | contradiction | omega)))
        all_goals (first | (refine E.OW.off rfl rfl rfl ?_) | (refine E.OW.pure rfl rfl rfl (E.PV.fieldAddr fa164_0 rfl rfl) ?_))
        all_goals (first | (refine E.OW.off rfl rfl rfl ?_) | (refine E.OW.pure rfl rfl rfl (E.PV.load (i := 0) na3 rfl rfl rfl rfl) ?_))
        all_goals (first | (refine E.OW.off rfl rfl rfl ?_) | (refine E.OW.pure rfl rfl rfl (E.PV.fieldAddr fa164_1 rfl rfl) ?_))
        all_goals (first | (refine E.OW.off rfl rfl rfl ?_) | (refine E.OW.pure rfl rfl rfl (E.PV.load (i := 0) na3 rfl rfl rfl rfl) ?_))
        all_goals (first | (refine E.OW.off rfl rfl rfl ?_) | (refine E.OW.pure rfl rfl rfl (E.PV.gtr rfl rfl rfl) ?_))
        all_goals (first | (refine E.OW.pure rfl rfl rfl (E.PV.pick_t rfl rfl rfl) ?_) | (refine E.OW.pure rfl rfl rfl (E.PV.pick_f rfl rfl rfl) ?_))
        all_goals (
          refine E.OW.nil ?_
          refine E.then_n ?_
          refine E.CW.cond rfl (fun hc => ?_) (fun hc => ?_)
          · simp only [E.b0, E.b1, E.b2, E.b3, E.b4, E.b5, E.b6, E.b7, E.b8, E.b9, E.b10, E.b11, E.b12, E.b13, E.b14, E.b15, E.b16, E.b17, E.b18, E.b19, E.b20, reduceCtorEq] at hc
            all_goals (
              refine E.CW.seq ?_
              refine E.CW.region ?_
              refine E.OW.pure rfl rfl rfl (E.PV.assign rfl rfl) ?_
              refine E.OW.nil ?_
              refine E.then_n ?_
              refine E.CW.ret ?_
              refine E.blk_ret ?_
              refine E.then_ret ?_
              refine E.then_ret ?_
              refine E.blk_ret ?_
              refine E.then_ret ?_
              refine E.KR.one [] Try.results136 rfl rfl ?_
              exact ⟨by rw [Cf.all_bad (z := (0, 0)) (k := k) (by omega) (by rw [Cf.btw, ← Bool.decide_and]; exact decide_eq_false (by omega))], rfl⟩)
          · first | ((cases hc; done)) | (simp only [E.b0, E.b1, E.b2, E.b3, E.b4, E.b5, E.b6, E.b7, E.b8, E.b9, E.b10, E.b11, E.b12, E.b13, E.b14, E.b15, E.b16, E.b17, E.b18, E.b19, E.b20, reduceCtorEq] at hc)
            all_goals (
              refine E.CW.skip ?_
              refine E.blk_n ?_
              refine E.then_n ?_
              refine E.CW.region ?_
              refine E.OW.pure rfl rfl rfl (E.PV.add_i64 rfl rfl rfl ?_) ?_; (focus (omega))
              refine E.OW.pure rfl rfl rfl (E.PV.move rfl rfl) ?_
              refine E.OW.nil ?_
              refine E.then_nf ?_
              refine ⟨_, [(7, _)], [], _, ?_, by repeat (first | exact E.cov_nil | refine ⟨rfl, ?_⟩), rfl, k + 1, rfl, rfl, rfl, by omega, Cf.next_all hI (by simp only [Cf.btw, Bool.and_eq_true, decide_eq_true_eq]; omega)⟩
              omega)))
    · simp only [E.b0, E.b1, E.b2, E.b3, E.b4, E.b5, E.b6, E.b7, E.b8, E.b9, E.b10, E.b11, E.b12, E.b13, E.b14, E.b15, E.b16, E.b17, E.b18, E.b19, E.b20, reduceCtorEq] at hc
      all_goals (
        refine E.CW.exit ?_
        refine E.then_x ?_
        refine E.then_x ?_
        refine E.blk_eq ?_
        refine E.then_n ?_
        refine E.CW.seq ?_
        refine E.CW.region ?_
        refine E.OW.pure rfl rfl rfl (E.PV.assign rfl rfl) ?_
        refine E.OW.nil ?_
        refine E.then_n ?_
        refine E.CW.ret ?_
        refine E.KR.one [] Try.results136 rfl rfl ?_
        exact ⟨by rw [Cf.all_good (z := (0, 0)) (fun j hj => hI j (by omega))], rfl⟩)

theorem Wn_ok (A : Option Addr) (c : Nat) (m : Cf.T) (w0 : World) (hX : E.Rd w0 (E.Old w0) A (E.pairs (Cf.lims m))) : Calls Try.prog 136 #[.slice A 8 c] w0 (E.Post w0 (E.Old w0) fun v Hn => v = .bool (Cf.numbers m) ∧ Hn = []) := Wi_ok A c (Cf.lims m) w0 (by simp [Cf.lims]) hX

set_option maxRecDepth 100000 in
theorem Fo_ok (B : Nat) (A : Option Addr) (c : Nat) (l : List Int) (x : Int) (w0 : World) (hB : E.Rd w0 (E.Old w0) (some ⟨B, 0, none⟩) [.slice A l.length c]) (hl : l.length ≤ 140737488355328) (hX : E.Rd w0 (E.Old w0) A (E.ints l)) :
    Calls Try.prog 137 #[.int .i64 x, .pointer (some ⟨B, 0, none⟩)] w0 (E.Post w0 (E.Old w0) fun v Hn => v = .bool (!decide (x ∈ l)) ∧ Hn = []) := by
  refine E.calls_of (vs := [.int .i64 x, .pointer (some ⟨B, 0, none⟩)]) (H := []) Try.func137 Try.ntmps137 rfl rfl (E.HA.start w0) ?_
  refine E.CW.seq ?_
  refine E.CW.region ?_
  refine E.OW.pure rfl rfl rfl (E.PV.assign rfl rfl) ?_
  refine E.OW.nil ?_
  refine E.then_n ?_
  refine E.CW.seq ?_
  refine E.CW.region ?_
  refine E.OW.pure rfl rfl rfl (E.PV.load_of (k := 0) (E.rdc hB) na31 rfl rfl rfl) ?_
  refine E.OW.pure rfl rfl rfl (E.PV.move rfl rfl) ?_
  (refine E.OW.call nm138 rfl rfl rfl rfl rfl rfl _ (fun w hw => Cn_ok _ _ _ _ w ?_ ?_) ?_; (focus (assumption)); (focus (refine hw.rd ?_; assumption)); rintro _ _ ⟨rfl, rfl⟩)
  refine E.OW.pure rfl rfl rfl (E.PV.not rfl rfl) ?_
  refine E.OW.pure rfl rfl rfl (E.PV.assign rfl rfl) ?_
  refine E.OW.nil ?_
  refine E.then_n ?_
  refine E.CW.ret ?_
  refine E.KR.one [] Try.results137 rfl rfl ?_
  exact ⟨rfl, rfl⟩

set_option maxRecDepth 100000 in
theorem CT_ok (a b : Int) (A : Option Addr) (c : Nat) (l : List UInt8) (t : Int) (m : E.Tm) (w0 : World) (hl : l.length ≤ 140737488355328) (hL : E.Rd w0 (E.Old w0) A (E.u8s l)) (hm : m.rd w0 (E.Old w0)) (hf : m.q.fit) :
    Calls Try.prog 118 #[.agg #[.int .i64 a, .int .i64 b, .slice A l.length c], .int .i64 t, m.v] w0 (E.Post w0 (E.Old w0) fun v Hn => v = .int .i64 (Cf.checkTeam a b l t m.q) ∧ Hn = []) := by
  obtain ⟨hX, hY, hZ⟩ := id hm
  have hs1 := hf.h
  have hs2 := hf.p
  have hs3 := hf.d
  have hsl := Cf.spots_len m.q
  have hpl := Fl.priv_len a b l t
  refine E.calls_of (vs := [.agg #[.int .i64 a, .int .i64 b, .slice A l.length c], .int .i64 t, m.v]) (H := []) Try.func118 Try.ntmps118 rfl rfl (E.HA.start w0) ?_
  refine E.CW.seq ?_
  refine E.CW.region ?_
  refine E.OW.box rfl rfl rfl rfl rfl rfl (fun B1 => ?_)
  refine E.OW.box rfl rfl rfl rfl rfl rfl (fun B2 => ?_)
  refine E.OW.pure rfl rfl rfl (E.PV.assign rfl rfl) ?_
  refine E.OW.nil ?_
  refine E.then_n ?_
  refine E.CW.seq ?_
  refine E.CW.region ?_
  refine E.OW.pure rfl rfl rfl (E.PV.loads (i := 1) is24 rfl rfl rfl rfl) ?_
  refine E.OW.pure rfl rfl rfl (E.PV.move rfl rfl) ?_
  (refine E.OW.call nm135 rfl rfl rfl rfl rfl rfl _ (fun w hw => Private_ok _ _ _ _ _ _ w ?_ ?_) ?_; (focus (assumption)); (focus (refine hw.rd ?_; assumption)); rintro _ _ ⟨_, _, rfl, rfl⟩)
  refine E.OW.pure rfl rfl rfl (E.PV.move rfl rfl) ?_
  refine E.OW.pure rfl rfl rfl (E.PV.extract rfl rfl rfl) ?_
  refine E.OW.pure rfl rfl rfl (E.PV.extract rfl rfl rfl) ?_
  refine E.OW.alloc (in31.zr) rfl rfl rfl rfl rfl (fun B3 => ?_)
  refine E.OW.store (i := 0) in31.size rfl rfl rfl rfl rfl rfl rfl rfl rfl ?_
  refine E.OW.pure rfl rfl rfl (E.PV.assign rfl rfl) ?_
  refine E.OW.nil ?_
  refine E.then_n ?_
  refine E.CW.seq ?_
  refine E.CW.seq ?_
  refine E.CW.region ?_
  refine E.OW.pure rfl rfl rfl (E.PV.move rfl rfl) ?_
  refine E.OW.pure rfl rfl rfl (E.PV.neq rfl rfl rfl) ?_
  refine E.OW.nil ?_
  refine E.then_n ?_
  refine E.CW.cond rfl (fun hc => ?_) (fun hc => ?_)
  · simp only [E.b0, E.b1, E.b2, E.b3, E.b4, E.b5, E.b6, E.b7, E.b8, E.b9, E.b10, E.b11, E.b12, E.b13, E.b14, E.b15, E.b16, E.b17, E.b18, E.b19, E.b20, reduceCtorEq] at hc
    all_goals (
      refine E.CW.seq ?_
      refine E.CW.region ?_
      refine E.OW.pure rfl rfl rfl (E.PV.move rfl rfl) ?_
      refine E.OW.pure rfl rfl rfl (E.PV.assign rfl rfl) ?_
      refine E.OW.nil ?_
      refine E.then_n ?_
      refine E.CW.ret ?_
      refine E.then_ret ?_
      refine E.KR.one [] Try.results118 rfl rfl ?_
      exact ⟨congrArg (Value.int .i64) (Cf.checkTeam_bad (by assumption)).symm, rfl⟩)
  · simp only [E.b0, E.b1, E.b2, E.b3, E.b4, E.b5, E.b6, E.b7, E.b8, E.b9, E.b10, E.b11, E.b12, E.b13, E.b14, E.b15, E.b16, E.b17, E.b18, E.b19, E.b20, reduceCtorEq] at hc
    all_goals (
      refine E.CW.skip ?_
      refine E.then_n ?_
      refine E.CW.seq ?_
      refine E.CW.seq ?_
      obtain ⟨hv, ht⟩ := Cf.priv_ok (by assumption)
      refine E.CW.region ?_
      refine E.OW.pure rfl rfl rfl (E.PV.loads (i := 2) is79 rfl rfl rfl rfl) ?_
      (refine E.OW.call nm123 rfl rfl rfl rfl rfl rfl _ (fun w hw => Ab_ok _ w ?_ ?_) ?_; (focus (refine hw.rdm ?_; assumption)); (focus (assumption)); rintro _ _ ⟨rfl, rfl⟩)
      refine E.OW.nil ?_
      refine E.then_n ?_
      refine E.CW.cond rfl (fun hc => ?_) (fun hc => ?_)
      · skip
        all_goals (
          refine E.CW.seq ?_
          refine E.CW.region ?_
          refine E.OW.pure rfl rfl rfl (E.PV.assign rfl rfl) ?_
          refine E.OW.nil ?_
          refine E.then_n ?_
          refine E.CW.ret ?_
          refine E.then_ret ?_
          refine E.KR.one [] Try.results118 rfl rfl ?_
          have ha : Cf.absent m.q = true := by assumption
          exact ⟨by rw [Cf.checkTeam_if hv ht, ha]; rfl, rfl⟩)
      · skip
        all_goals (
          refine E.CW.skip ?_
          refine E.then_n ?_
          refine E.CW.seq ?_
          refine E.CW.seq ?_
          refine E.CW.region ?_
          refine E.OW.pure rfl rfl rfl (E.PV.fieldAddr fa79_0 rfl rfl) ?_
          refine E.OW.pure rfl rfl rfl (E.PV.load (i := 2) na31 rfl rfl rfl rfl) ?_
          refine E.OW.pure rfl rfl rfl (E.PV.len Try.underlying31 rfl rfl) ?_
          refine E.OW.pure rfl rfl rfl (E.PV.build (ps := [(0, .tmp 24), (1, .const (.int .i64 3))]) rfl rfl (fun w => bld164_0_1 _ _ w)) ?_
          refine E.OW.pure rfl rfl rfl (E.PV.fieldAddr fa79_1 rfl rfl) ?_
          refine E.OW.pure rfl rfl rfl (E.PV.load (i := 2) na31 rfl rfl rfl rfl) ?_
          refine E.OW.pure rfl rfl rfl (E.PV.len Try.underlying31 rfl rfl) ?_
          refine E.OW.pure rfl rfl rfl (E.PV.build (ps := [(0, .tmp 28), (1, .const (.int .i64 3))]) rfl rfl (fun w => bld164_0_1 _ _ w)) ?_
          refine E.OW.pure rfl rfl rfl (E.PV.fieldAddr fa79_2 rfl rfl) ?_
          refine E.OW.pure rfl rfl rfl (E.PV.load (i := 2) na31 rfl rfl rfl rfl) ?_
          refine E.OW.pure rfl rfl rfl (E.PV.len Try.underlying31 rfl rfl) ?_
          refine E.OW.pure rfl rfl rfl (E.PV.build (ps := [(0, .tmp 32), (1, .const (.int .i64 3))]) rfl rfl (fun w => bld164_0_1 _ _ w)) ?_
          refine E.OW.pure rfl rfl rfl (E.PV.fieldAddr fa79_3 rfl rfl) ?_
          refine E.OW.pure rfl rfl rfl (E.PV.load (i := 2) na3 rfl rfl rfl rfl) ?_
          refine E.OW.pure rfl rfl rfl (E.PV.build (ps := [(0, .tmp 35), (1, .const (.int .i64 8))]) rfl rfl (fun w => bld164_0_1 _ _ w)) ?_
          refine E.OW.pure rfl rfl rfl (E.PV.fieldAddr fa79_4 rfl rfl) ?_
          refine E.OW.pure rfl rfl rfl (E.PV.load (i := 2) na3 rfl rfl rfl rfl) ?_
          refine E.OW.pure rfl rfl rfl (E.PV.build (ps := [(0, .tmp 38), (1, .const (.int .i64 8))]) rfl rfl (fun w => bld164_0_1 _ _ w)) ?_
          refine E.OW.pure rfl rfl rfl (E.PV.fieldAddr fa79_5 rfl rfl) ?_
          refine E.OW.pure rfl rfl rfl (E.PV.load (i := 2) na3 rfl rfl rfl rfl) ?_
          refine E.OW.pure rfl rfl rfl (E.PV.build (ps := [(0, .tmp 41), (1, .const (.int .i64 8))]) rfl rfl (fun w => bld164_0_1 _ _ w)) ?_
          refine E.OW.pure rfl rfl rfl (E.PV.fieldAddr fa79_6 rfl rfl) ?_
          refine E.OW.pure rfl rfl rfl (E.PV.load (i := 2) na3 rfl rfl rfl rfl) ?_
          refine E.OW.pure rfl rfl rfl (E.PV.build (ps := [(0, .tmp 44), (1, .const (.int .i64 16))]) rfl rfl (fun w => bld164_0_1 _ _ w)) ?_
          refine E.OW.pure rfl rfl rfl (E.PV.fieldAddr fa79_7 rfl rfl) ?_
          refine E.OW.pure rfl rfl rfl (E.PV.load (i := 2) na3 rfl rfl rfl rfl) ?_
          refine E.OW.pure rfl rfl rfl (E.PV.build (ps := [(0, .tmp 47), (1, .const (.int .i64 64))]) rfl rfl (fun w => bld164_0_1 _ _ w)) ?_
          refine E.OW.buildSlice (Et := 164) (sz := 2) (cs := E.pairs (Cf.lims m.q)) (ps := [(0, .tmp 25), (1, .tmp 29), (2, .tmp 33), (3, .tmp 36), (4, .tmp 39), (5, .tmp 42), (6, .tmp 45), (7, .tmp 48)]) rfl rfl rfl rfl rfl (by simp [Cf.lims]) (by unfold maxLen; omega) (fun w => bsl175_8_0_1_2_3_4_5_6_7 _ _ _ _ _ _ _ _ _ _ _ _ _ _ _ _ w) (fun AL => ?_)
          (refine E.OW.call nm136 rfl rfl rfl rfl rfl rfl _ (fun w hw => Wn_ok _ _ m.q w ?_) ?_; (focus (exact hw.rdrow (i := 0) rfl)); rintro _ _ ⟨rfl, rfl⟩)
          refine E.OW.pure rfl rfl rfl (E.PV.not rfl rfl) ?_
          refine E.OW.nil ?_
          refine E.then_n ?_
          refine E.CW.cond rfl (fun hc => ?_) (fun hc => ?_)
          · simp only [E.b0, E.b1, E.b2, E.b3, E.b4, E.b5, E.b6, E.b7, E.b8, E.b9, E.b10, E.b11, E.b12, E.b13, E.b14, E.b15, E.b16, E.b17, E.b18, E.b19, E.b20, reduceCtorEq] at hc
            all_goals (
              refine E.CW.seq ?_
              refine E.CW.region ?_
              refine E.OW.pure rfl rfl rfl (E.PV.assign rfl rfl) ?_
              refine E.OW.nil ?_
              refine E.then_n ?_
              refine E.CW.ret ?_
              refine E.then_ret ?_
              refine E.KR.one [] Try.results118 rfl rfl ?_
              have ha : Cf.absent m.q = false := by assumption
              have hnf : Cf.numbers m.q = false := by assumption
              exact ⟨by rw [Cf.checkTeam_if hv ht, ha]; simp [Cf.validTeam, hnf], rfl⟩)
          · simp only [E.b0, E.b1, E.b2, E.b3, E.b4, E.b5, E.b6, E.b7, E.b8, E.b9, E.b10, E.b11, E.b12, E.b13, E.b14, E.b15, E.b16, E.b17, E.b18, E.b19, E.b20, reduceCtorEq] at hc
            all_goals (
              refine E.CW.skip ?_
              refine E.then_n ?_
              refine E.CW.seq ?_
              have hnn : Cf.numbers m.q = true := by assumption
              have hnl := Cf.numbers_len hnn
              have hsi : Cf.i64s (Cf.spots m.q) := Cf.spots_i64 hf
              refine E.CW.region ?_
              refine E.OW.pure rfl rfl rfl (E.PV.makeFunc (f := .func 137) (fs := []) (cs := [.tmp 7]) rfl rfl rfl) ?_
              refine E.OW.pure rfl rfl rfl (E.PV.assign rfl rfl) ?_
              refine E.OW.nil ?_
              refine E.then_n ?_
              refine E.CW.seq ?_
              refine E.CW.seq ?_
              refine E.CW.region ?_
              refine E.OW.pure rfl rfl rfl (E.PV.loads (i := 3) is79 rfl rfl rfl rfl) ?_
              (refine E.OW.call nm100 rfl rfl rfl rfl rfl rfl _ (fun w hw => Sp_ok _ w ?_ ?_ ?_) ?_; (focus (refine hw.rdm ?_; assumption)); (focus (assumption)); (focus (omega)); rintro _ _ ⟨AS, cS, rfl, rfl⟩)
              refine E.OW.pure rfl rfl rfl (E.PV.assign rfl rfl) ?_
              refine E.OW.nil ?_
              refine E.then_n ?_
              refine E.CW.seq ?_
              refine E.CW.region ?_
              refine E.OW.pure rfl rfl rfl (E.PV.move rfl rfl) ?_
              refine E.OW.pure rfl rfl rfl (E.PV.move rfl rfl) ?_
              (refine E.OW.call nm139 rfl rfl rfl rfl rfl rfl _ (fun w hw => CFI_ok _ _ (Cf.spots m.q) (fun p => !decide (p ∈ (Fl.priv a b l t).1)) 137 _ w nm137 (fun w2 hw2 x => by simpa using Fo_ok _ _ _ _ x w2 (hw2.rd (hw.rdblk (i := 2) rfl)) (by omega) (hw2.rd (hw.rdrow (i := 3) rfl))) ?_ ?_) ?_; (focus (omega)); (focus (exact hw.rdrow (i := 0) rfl)); rintro _ _ ⟨rfl, rfl⟩)
              refine E.OW.pure rfl rfl rfl (E.PV.move rfl rfl) ?_
              all_goals (refine E.OW.split 58 rfl (fun hc => ?_) (fun hc => ?_) <;> (try simp only [E.b0, E.b1, E.b2, E.b3, E.b4, E.b5, E.b6, E.b7, E.b8, E.b9, E.b10, E.b11, E.b12, E.b13, E.b14, E.b15, E.b16, E.b17, E.b18, E.b19, E.b20, reduceCtorEq] at hc) <;> (try (exfalso; first | assumption | contradiction | omega)))
              all_goals (first | (refine E.OW.off rfl rfl rfl ?_) | (refine E.OW.pure rfl rfl rfl (E.PV.move rfl rfl) ?_))
              all_goals (first | (refine E.OW.off rfl rfl rfl ?_) | ((refine E.OW.call nm140 rfl rfl rfl rfl rfl rfl _ (fun w hw => Ds_ok _ _ (Cf.spots m.q) w hsi ?_ ?_) ?_; (focus (omega)); (focus (exact hw.rdrow (i := 0) rfl)); rintro _ _ ⟨rfl, rfl⟩)))
              all_goals (first | (refine E.OW.off rfl rfl rfl ?_) | (refine E.OW.pure rfl rfl rfl (E.PV.not rfl rfl) ?_))
              all_goals (first | (refine E.OW.pure rfl rfl rfl (E.PV.pick_t rfl rfl rfl) ?_) | (refine E.OW.pure rfl rfl rfl (E.PV.pick_f rfl rfl rfl) ?_))
              all_goals (
                refine E.OW.nil ?_
                refine E.then_n ?_
                refine E.CW.cond rfl (fun hc => ?_) (fun hc => ?_)
                · simp only [E.b0, E.b1, E.b2, E.b3, E.b4, E.b5, E.b6, E.b7, E.b8, E.b9, E.b10, E.b11, E.b12, E.b13, E.b14, E.b15, E.b16, E.b17, E.b18, E.b19, E.b20, reduceCtorEq] at hc
                  all_goals (
                    refine E.CW.seq ?_
                    refine E.CW.region ?_
                    refine E.OW.pure rfl rfl rfl (E.PV.assign rfl rfl) ?_
                    refine E.OW.nil ?_
                    refine E.then_n ?_
                    refine E.CW.ret ?_
                    refine E.then_ret ?_
                    refine E.KR.one [] Try.results118 rfl rfl ?_
                    have ha : Cf.absent m.q = false := by assumption
                    first | exact ⟨congrArg (Value.int .i64) (Cf.ct_own hv ht ha (by assumption)).symm, rfl⟩ | exact ⟨congrArg (Value.int .i64) (Cf.ct_dup hv ht ha (by assumption)).symm, rfl⟩)
                · first | ((cases hc; done)) | (simp only [E.b0, E.b1, E.b2, E.b3, E.b4, E.b5, E.b6, E.b7, E.b8, E.b9, E.b10, E.b11, E.b12, E.b13, E.b14, E.b15, E.b16, E.b17, E.b18, E.b19, E.b20, reduceCtorEq] at hc)
                  all_goals (
                    refine E.CW.skip ?_
                    refine E.then_n ?_
                    refine E.CW.seq ?_
                    refine E.CW.region ?_
                    refine E.OW.pure rfl rfl rfl (E.PV.assign rfl rfl) ?_
                    refine E.OW.nil ?_
                    refine E.then_n ?_
                    refine E.CW.ret ?_
                    refine E.KR.one [] Try.results118 rfl rfl ?_
                    exact ⟨congrArg (Value.int .i64) (Cf.ct_yes hv ht hnn (by assumption) (by assumption)).symm, rfl⟩)))))

set_option maxRecDepth 100000 in
theorem Bt_ok (n m : Int) (w0 : World) :
    Calls Try.prog 155 #[.int .i64 n, .int .i64 m] w0 (E.Post w0 (E.Old w0) fun v Hn => v = .bool (Cf.btw n m) ∧ Hn = []) := by
  refine E.calls_of (vs := [.int .i64 n, .int .i64 m]) (H := []) Try.func155 Try.ntmps155 rfl rfl (E.HA.start w0) ?_
  refine E.CW.seq ?_
  refine E.CW.region ?_
  refine E.OW.pure rfl rfl rfl (E.PV.assign rfl rfl) ?_
  refine E.OW.nil ?_
  refine E.then_n ?_
  refine E.CW.seq ?_
  refine E.CW.region ?_
  refine E.OW.pure rfl rfl rfl (E.PV.move rfl rfl) ?_
  refine E.OW.pure rfl rfl rfl (E.PV.geq rfl rfl rfl) ?_
  refine E.OW.pure rfl rfl rfl (E.PV.move rfl rfl) ?_
  all_goals (refine E.OW.split 7 rfl (fun hc => ?_) (fun hc => ?_) <;> (try simp only [E.b0, E.b1, E.b2, E.b3, E.b4, E.b5, E.b6, E.b7, E.b8, E.b9, E.b10, E.b11, E.b12, E.b13, E.b14, E.b15, E.b16, E.b17, E.b18, E.b19, E.b20, reduceCtorEq] at hc) <;> (try (exfalso; first | assumption | contradiction | omega)))
  all_goals (first | (refine E.OW.off rfl rfl rfl ?_) | (refine E.OW.pure rfl rfl rfl (E.PV.move rfl rfl) ?_))
  all_goals (first | (refine E.OW.off rfl rfl rfl ?_) | (refine E.OW.pure rfl rfl rfl (E.PV.move rfl rfl) ?_))
  all_goals (first | (refine E.OW.off rfl rfl rfl ?_) | (refine E.OW.pure rfl rfl rfl (E.PV.leq rfl rfl rfl) ?_))
  all_goals (first | (refine E.OW.pure rfl rfl rfl (E.PV.pick_t rfl rfl rfl) ?_) | (refine E.OW.pure rfl rfl rfl (E.PV.pick_f rfl rfl rfl) ?_))
  all_goals (refine E.OW.pure rfl rfl rfl (E.PV.assign rfl rfl) ?_)
  all_goals (
    refine E.OW.nil ?_
    refine E.then_n ?_
    refine E.CW.ret ?_
    refine E.KR.one [] Try.results155 rfl rfl ?_
    exact ⟨by simp [Cf.btw, *] <;> omega, rfl⟩)

set_option maxRecDepth 100000 in
theorem rN_ok (m : E.Tm) (w0 : World) (hm : m.rd w0 (E.Old w0)) (hf : m.q.fit) :
    Calls Try.prog 152 #[m.v] w0 (E.Post w0 (E.Old w0) fun v Hn => v = .bool (Cf.numbers m.q) ∧ Hn = []) := by
  refine E.calls_of (vs := [m.v]) (H := []) Try.func152 Try.ntmps152 rfl rfl (E.HA.start w0) ?_
  refine E.CW.seq ?_
  refine E.CW.region ?_
  refine E.OW.box rfl rfl rfl rfl rfl rfl (fun B1 => ?_)
  refine E.OW.pure rfl rfl rfl (E.PV.assign rfl rfl) ?_
  refine E.OW.nil ?_
  refine E.then_n ?_
  refine E.CW.seq ?_
  refine E.CW.seq ?_
  refine E.CW.region ?_
  refine E.OW.pure rfl rfl rfl (E.PV.fieldAddr fa79_0 rfl rfl) ?_
  refine E.OW.pure rfl rfl rfl (E.PV.load (i := 0) na31 rfl rfl rfl rfl) ?_
  refine E.OW.pure rfl rfl rfl (E.PV.len Try.underlying31 rfl rfl) ?_
  (refine E.OW.call nm155 rfl rfl rfl rfl rfl rfl _ (fun w hw => Bt_ok _ _ w) ?_; rintro _ _ ⟨rfl, rfl⟩)
  refine E.OW.pure rfl rfl rfl (E.PV.not rfl rfl) ?_
  refine E.OW.pure rfl rfl rfl (E.PV.move rfl rfl) ?_
  all_goals (refine E.OW.split 8 rfl (fun hc => ?_) (fun hc => ?_) <;> (try simp only [E.b0, E.b1, E.b2, E.b3, E.b4, E.b5, E.b6, E.b7, E.b8, E.b9, E.b10, E.b11, E.b12, E.b13, E.b14, E.b15, E.b16, E.b17, E.b18, E.b19, E.b20, reduceCtorEq] at hc) <;> (try (exfalso; first | assumption | contradiction | omega)))
  all_goals (first | (refine E.OW.off rfl rfl rfl ?_) | (refine E.OW.pure rfl rfl rfl (E.PV.fieldAddr fa79_1 rfl rfl) ?_))
  all_goals (first | (refine E.OW.off rfl rfl rfl ?_) | (refine E.OW.pure rfl rfl rfl (E.PV.load (i := 0) na31 rfl rfl rfl rfl) ?_))
  all_goals (first | (refine E.OW.off rfl rfl rfl ?_) | (refine E.OW.pure rfl rfl rfl (E.PV.len Try.underlying31 rfl rfl) ?_))
  all_goals (first | (refine E.OW.off rfl rfl rfl ?_) | ((refine E.OW.call nm155 rfl rfl rfl rfl rfl rfl _ (fun w hw => Bt_ok _ _ w) ?_; rintro _ _ ⟨rfl, rfl⟩)))
  all_goals (first | (refine E.OW.off rfl rfl rfl ?_) | (refine E.OW.pure rfl rfl rfl (E.PV.not rfl rfl) ?_))
  all_goals (first | (refine E.OW.pure rfl rfl rfl (E.PV.pick_t rfl rfl rfl) ?_) | (refine E.OW.pure rfl rfl rfl (E.PV.pick_f rfl rfl rfl) ?_))
  all_goals (refine E.OW.pure rfl rfl rfl (E.PV.move rfl rfl) ?_)
  all_goals (first | (refine E.OW.put 15 (.bool true) (v := .bool true) rfl rfl ?_) | (refine E.OW.split 15 rfl (fun hc => ?_) (fun hc => ?_) <;> (try simp only [E.b0, E.b1, E.b2, E.b3, E.b4, E.b5, E.b6, E.b7, E.b8, E.b9, E.b10, E.b11, E.b12, E.b13, E.b14, E.b15, E.b16, E.b17, E.b18, E.b19, E.b20, reduceCtorEq] at hc) <;> (try (exfalso; first | assumption | contradiction | omega))))
  all_goals (first | (refine E.OW.off rfl rfl rfl ?_) | (refine E.OW.pure rfl rfl rfl (E.PV.fieldAddr fa79_2 rfl rfl) ?_))
  all_goals (first | (refine E.OW.off rfl rfl rfl ?_) | (refine E.OW.pure rfl rfl rfl (E.PV.load (i := 0) na31 rfl rfl rfl rfl) ?_))
  all_goals (first | (refine E.OW.off rfl rfl rfl ?_) | (refine E.OW.pure rfl rfl rfl (E.PV.len Try.underlying31 rfl rfl) ?_))
  all_goals (first | (refine E.OW.off rfl rfl rfl ?_) | ((refine E.OW.call nm155 rfl rfl rfl rfl rfl rfl _ (fun w hw => Bt_ok _ _ w) ?_; rintro _ _ ⟨rfl, rfl⟩)))
  all_goals (first | (refine E.OW.off rfl rfl rfl ?_) | (refine E.OW.pure rfl rfl rfl (E.PV.not rfl rfl) ?_))
  all_goals (first | (refine E.OW.pure rfl rfl rfl (E.PV.pick_t rfl rfl rfl) ?_) | (refine E.OW.pure rfl rfl rfl (E.PV.pick_f rfl rfl rfl) ?_))
  all_goals (
    refine E.OW.nil ?_
    refine E.then_n ?_
    refine E.CW.cond rfl (fun hc => ?_) (fun hc => ?_)
    · simp only [E.b0, E.b1, E.b2, E.b3, E.b4, E.b5, E.b6, E.b7, E.b8, E.b9, E.b10, E.b11, E.b12, E.b13, E.b14, E.b15, E.b16, E.b17, E.b18, E.b19, E.b20, reduceCtorEq] at hc
      all_goals (
        refine E.CW.seq ?_
        refine E.CW.region ?_
        refine E.OW.pure rfl rfl rfl (E.PV.assign rfl rfl) ?_
        refine E.OW.nil ?_
        refine E.then_n ?_
        refine E.CW.ret ?_
        refine E.then_ret ?_
        refine E.KR.one [] Try.results152 rfl rfl ?_
        exact ⟨by simp_all [Cf.numbers, Cf.lims], rfl⟩)
    · first | ((cases hc; done)) | (simp only [E.b0, E.b1, E.b2, E.b3, E.b4, E.b5, E.b6, E.b7, E.b8, E.b9, E.b10, E.b11, E.b12, E.b13, E.b14, E.b15, E.b16, E.b17, E.b18, E.b19, E.b20, reduceCtorEq] at hc)
      all_goals (
        refine E.CW.skip ?_
        refine E.then_n ?_
        refine E.CW.seq ?_
        refine E.CW.region ?_
        refine E.OW.pure rfl rfl rfl (E.PV.fieldAddr fa79_3 rfl rfl) ?_
        refine E.OW.pure rfl rfl rfl (E.PV.load (i := 0) na3 rfl rfl rfl rfl) ?_
        (refine E.OW.call nm155 rfl rfl rfl rfl rfl rfl _ (fun w hw => Bt_ok _ _ w) ?_; rintro _ _ ⟨rfl, rfl⟩)
        refine E.OW.pure rfl rfl rfl (E.PV.move rfl rfl) ?_
        all_goals (refine E.OW.split 25 rfl (fun hc => ?_) (fun hc => ?_) <;> (try simp only [E.b0, E.b1, E.b2, E.b3, E.b4, E.b5, E.b6, E.b7, E.b8, E.b9, E.b10, E.b11, E.b12, E.b13, E.b14, E.b15, E.b16, E.b17, E.b18, E.b19, E.b20, reduceCtorEq] at hc) <;> (try (exfalso; first | assumption | contradiction | omega)))
        all_goals (first | (refine E.OW.off rfl rfl rfl ?_) | (refine E.OW.pure rfl rfl rfl (E.PV.fieldAddr fa79_4 rfl rfl) ?_))
        all_goals (first | (refine E.OW.off rfl rfl rfl ?_) | (refine E.OW.pure rfl rfl rfl (E.PV.load (i := 0) na3 rfl rfl rfl rfl) ?_))
        all_goals (first | (refine E.OW.off rfl rfl rfl ?_) | ((refine E.OW.call nm155 rfl rfl rfl rfl rfl rfl _ (fun w hw => Bt_ok _ _ w) ?_; rintro _ _ ⟨rfl, rfl⟩)))
        all_goals (first | (refine E.OW.pure rfl rfl rfl (E.PV.pick_t rfl rfl rfl) ?_) | (refine E.OW.pure rfl rfl rfl (E.PV.pick_f rfl rfl rfl) ?_))
        all_goals (refine E.OW.pure rfl rfl rfl (E.PV.move rfl rfl) ?_)
        all_goals (first | (refine E.OW.put 30 (.bool false) (v := .bool false) rfl rfl ?_) | (refine E.OW.split 30 rfl (fun hc => ?_) (fun hc => ?_) <;> (try simp only [E.b0, E.b1, E.b2, E.b3, E.b4, E.b5, E.b6, E.b7, E.b8, E.b9, E.b10, E.b11, E.b12, E.b13, E.b14, E.b15, E.b16, E.b17, E.b18, E.b19, E.b20, reduceCtorEq] at hc) <;> (try (exfalso; first | assumption | contradiction | omega))))
        all_goals (first | (refine E.OW.off rfl rfl rfl ?_) | (refine E.OW.pure rfl rfl rfl (E.PV.fieldAddr fa79_5 rfl rfl) ?_))
        all_goals (first | (refine E.OW.off rfl rfl rfl ?_) | (refine E.OW.pure rfl rfl rfl (E.PV.load (i := 0) na3 rfl rfl rfl rfl) ?_))
        all_goals (first | (refine E.OW.off rfl rfl rfl ?_) | ((refine E.OW.call nm155 rfl rfl rfl rfl rfl rfl _ (fun w hw => Bt_ok _ _ w) ?_; rintro _ _ ⟨rfl, rfl⟩)))
        all_goals (first | (refine E.OW.pure rfl rfl rfl (E.PV.pick_t rfl rfl rfl) ?_) | (refine E.OW.pure rfl rfl rfl (E.PV.pick_f rfl rfl rfl) ?_))
        all_goals (refine E.OW.pure rfl rfl rfl (E.PV.move rfl rfl) ?_)
        all_goals (first | (refine E.OW.put 35 (.bool false) (v := .bool false) rfl rfl ?_) | (refine E.OW.split 35 rfl (fun hc => ?_) (fun hc => ?_) <;> (try simp only [E.b0, E.b1, E.b2, E.b3, E.b4, E.b5, E.b6, E.b7, E.b8, E.b9, E.b10, E.b11, E.b12, E.b13, E.b14, E.b15, E.b16, E.b17, E.b18, E.b19, E.b20, reduceCtorEq] at hc) <;> (try (exfalso; first | assumption | contradiction | omega))))
        all_goals (first | (refine E.OW.off rfl rfl rfl ?_) | (refine E.OW.pure rfl rfl rfl (E.PV.fieldAddr fa79_6 rfl rfl) ?_))
        all_goals (first | (refine E.OW.off rfl rfl rfl ?_) | (refine E.OW.pure rfl rfl rfl (E.PV.load (i := 0) na3 rfl rfl rfl rfl) ?_))
        all_goals (first | (refine E.OW.off rfl rfl rfl ?_) | ((refine E.OW.call nm155 rfl rfl rfl rfl rfl rfl _ (fun w hw => Bt_ok _ _ w) ?_; rintro _ _ ⟨rfl, rfl⟩)))
        all_goals (first | (refine E.OW.pure rfl rfl rfl (E.PV.pick_t rfl rfl rfl) ?_) | (refine E.OW.pure rfl rfl rfl (E.PV.pick_f rfl rfl rfl) ?_))
        all_goals (refine E.OW.pure rfl rfl rfl (E.PV.move rfl rfl) ?_)
        all_goals (first | (refine E.OW.put 40 (.bool false) (v := .bool false) rfl rfl ?_) | (refine E.OW.split 40 rfl (fun hc => ?_) (fun hc => ?_) <;> (try simp only [E.b0, E.b1, E.b2, E.b3, E.b4, E.b5, E.b6, E.b7, E.b8, E.b9, E.b10, E.b11, E.b12, E.b13, E.b14, E.b15, E.b16, E.b17, E.b18, E.b19, E.b20, reduceCtorEq] at hc) <;> (try (exfalso; first | assumption | contradiction | omega))))
        all_goals (first | (refine E.OW.off rfl rfl rfl ?_) | (refine E.OW.pure rfl rfl rfl (E.PV.fieldAddr fa79_7 rfl rfl) ?_))
        all_goals (first | (refine E.OW.off rfl rfl rfl ?_) | (refine E.OW.pure rfl rfl rfl (E.PV.load (i := 0) na3 rfl rfl rfl rfl) ?_))
        all_goals (first | (refine E.OW.off rfl rfl rfl ?_) | ((refine E.OW.call nm155 rfl rfl rfl rfl rfl rfl _ (fun w hw => Bt_ok _ _ w) ?_; rintro _ _ ⟨rfl, rfl⟩)))
        all_goals (first | (refine E.OW.pure rfl rfl rfl (E.PV.pick_t rfl rfl rfl) ?_) | (refine E.OW.pure rfl rfl rfl (E.PV.pick_f rfl rfl rfl) ?_))
        all_goals (refine E.OW.pure rfl rfl rfl (E.PV.assign rfl rfl) ?_)
        all_goals (
          refine E.OW.nil ?_
          refine E.then_n ?_
          refine E.CW.ret ?_
          refine E.KR.one [] Try.results152 rfl rfl ?_
          exact ⟨by simp_all [Cf.numbers, Cf.lims], rfl⟩)))

set_option maxRecDepth 100000 in
theorem rVT_ok (a b : Int) (A : Option Addr) (c : Nat) (l : List UInt8) (t : Int) (m : E.Tm) (w0 : World) (hl : l.length ≤ 140737488355328) (hL : E.Rd w0 (E.Old w0) A (E.u8s l)) (hm : m.rd w0 (E.Old w0)) (hf : m.q.fit) :
    Calls Try.prog 144 #[.agg #[.int .i64 a, .int .i64 b, .slice A l.length c], .int .i64 t, m.v] w0 (E.Post w0 (E.Old w0) fun v Hn => v = .bool (Cf.validTeam l t m.q) ∧ Hn = []) := by
  obtain ⟨hX, hY, hZ⟩ := id hm
  have hs1 := hf.h
  have hs2 := hf.p
  have hs3 := hf.d
  have hsl := Cf.spots_len m.q
  refine E.calls_of (vs := [.agg #[.int .i64 a, .int .i64 b, .slice A l.length c], .int .i64 t, m.v]) (H := []) Try.func144 Try.ntmps144 rfl rfl (E.HA.start w0) ?_
  refine E.CW.seq ?_
  refine E.CW.region ?_
  refine E.OW.box rfl rfl rfl rfl rfl rfl (fun B1 => ?_)
  refine E.OW.box rfl rfl rfl rfl rfl rfl (fun B2 => ?_)
  refine E.OW.pure rfl rfl rfl (E.PV.assign rfl rfl) ?_
  refine E.OW.nil ?_
  refine E.then_n ?_
  refine E.CW.seq ?_
  refine E.CW.seq ?_
  refine E.CW.region ?_
  refine E.OW.pure rfl rfl rfl (E.PV.loads (i := 0) is79 rfl rfl rfl rfl) ?_
  (refine E.OW.call nm152 rfl rfl rfl rfl rfl rfl _ (fun w hw => rN_ok _ w ?_ ?_) ?_; (focus (refine hw.rdm ?_; assumption)); (focus (assumption)); rintro _ _ ⟨rfl, rfl⟩)
  refine E.OW.pure rfl rfl rfl (E.PV.not rfl rfl) ?_
  refine E.OW.nil ?_
  refine E.then_n ?_
  refine E.CW.cond rfl (fun hc => ?_) (fun hc => ?_)
  · simp only [E.b0, E.b1, E.b2, E.b3, E.b4, E.b5, E.b6, E.b7, E.b8, E.b9, E.b10, E.b11, E.b12, E.b13, E.b14, E.b15, E.b16, E.b17, E.b18, E.b19, E.b20, reduceCtorEq] at hc
    all_goals (
      refine E.CW.seq ?_
      refine E.CW.region ?_
      refine E.OW.pure rfl rfl rfl (E.PV.assign rfl rfl) ?_
      refine E.OW.nil ?_
      refine E.then_n ?_
      refine E.CW.ret ?_
      refine E.then_ret ?_
      refine E.KR.one [] Try.results144 rfl rfl ?_
      have hnf : Cf.numbers m.q = false := by assumption
      exact ⟨by simp [Cf.validTeam, hnf], rfl⟩)
  · simp only [E.b0, E.b1, E.b2, E.b3, E.b4, E.b5, E.b6, E.b7, E.b8, E.b9, E.b10, E.b11, E.b12, E.b13, E.b14, E.b15, E.b16, E.b17, E.b18, E.b19, E.b20, reduceCtorEq] at hc
    all_goals (
      refine E.CW.skip ?_
      refine E.then_n ?_
      refine E.CW.seq ?_
      have hnn : Cf.numbers m.q = true := by assumption
      have hnl := Cf.numbers_len hnn
      have hsi : Cf.i64s (Cf.spots m.q) := Cf.spots_i64 hf
      refine E.CW.region ?_
      refine E.OW.pure rfl rfl rfl (E.PV.loads (i := 0) is79 rfl rfl rfl rfl) ?_
      (refine E.OW.call nm109 rfl rfl rfl rfl rfl rfl _ (fun w hw => rSp_ok _ w ?_ ?_ ?_) ?_; (focus (refine hw.rdm ?_; assumption)); (focus (assumption)); (focus (omega)); rintro _ _ ⟨AR, cR, rfl, rfl⟩)
      refine E.OW.pure rfl rfl rfl (E.PV.assign rfl rfl) ?_
      refine E.OW.nil ?_
      refine E.then_n ?_
      refine E.CW.seq ?_
      refine E.CW.seq ?_
      refine E.CW.region ?_
      refine E.OW.pure rfl rfl rfl (E.PV.assign rfl rfl) ?_
      refine E.OW.nil ?_
      refine E.then_n ?_
      refine E.CW.block ?_
      refine E.CW.loopk [1, 3, 7] 0 rfl rfl (fun mm mods Hm => ∃ k : Nat, mm = (Cf.spots m.q).length - k ∧ mods = [(8, .int .i64 k)] ∧ Hm = [] ∧ (k ≤ (Cf.spots m.q).length ∧ (∀ j, j < k → Cf.ownAt l t ((Cf.spots m.q).getD j 0) = true) ∧ ((Cf.spots m.q).take k).Nodup)) ((Cf.spots m.q).length) ?_ ?_
      · exact ⟨[(8, _)], (by repeat (first | exact E.cov_nil | refine ⟨rfl, ?_⟩)), 0, rfl, rfl, rfl, by omega, (fun j hj => by omega), by simp⟩
      · rintro _ _ _ ⟨k, rfl, rfl, rfl, hk, hI, hN⟩
        refine E.CW.seq ?_
        refine E.CW.seq ?_
        refine E.CW.region ?_
        refine E.OW.pure rfl rfl rfl (E.PV.move rfl rfl) ?_
        refine E.OW.pure rfl rfl rfl (E.PV.move rfl rfl) ?_
        refine E.OW.pure rfl rfl rfl (E.PV.len Try.underlying31 rfl rfl) ?_
        refine E.OW.pure rfl rfl rfl (E.PV.lss rfl rfl rfl) ?_
        refine E.OW.nil ?_
        refine E.then_n ?_
        refine E.CW.cond rfl (fun hc => ?_) (fun hc => ?_)
        · simp only [E.b0, E.b1, E.b2, E.b3, E.b4, E.b5, E.b6, E.b7, E.b8, E.b9, E.b10, E.b11, E.b12, E.b13, E.b14, E.b15, E.b16, E.b17, E.b18, E.b19, E.b20, reduceCtorEq] at hc
          all_goals (
            refine E.CW.skip ?_
            refine E.then_n ?_
            refine E.CW.seq ?_
            refine E.CW.block ?_
            refine E.CW.seq ?_
            refine E.CW.seq ?_
            have hpb := hsi _ (Fl.getD_mem' (show k < (Cf.spots m.q).length by omega))
            refine E.CW.draw mixed (by kernel_rfl) ?_
            refine E.QW.pure rfl rfl rfl (E.PV.move rfl rfl) ?_
            refine E.QW.pure rfl rfl rfl (E.PV.move rfl rfl) ?_
            refine E.QW.pure rfl rfl rfl (E.PV.indexAddr1 (E.rdr (i := 0) rfl) Try.underlying31 in3 rfl rfl rfl rfl ?_ ?_) ?_; (focus (first | (simp; done) | (simp; omega))); (focus (omega))
            refine E.QW.pure rfl rfl rfl (E.PV.load_int (E.rdr (i := 0) rfl) na3 rfl rfl ?_) ?_; (focus (omega))
            refine E.QW.pure rfl rfl rfl (E.PV.lss rfl rfl rfl) ?_
            refine E.QW.pure rfl rfl rfl (E.PV.move rfl rfl) ?_
            all_goals (refine E.QW.split 26 rfl (fun hc => ?_) (fun hc => ?_) <;> (try simp only [E.b0, E.b1, E.b2, E.b3, E.b4, E.b5, E.b6, E.b7, E.b8, E.b9, E.b10, E.b11, E.b12, E.b13, E.b14, E.b15, E.b16, E.b17, E.b18, E.b19, E.b20, reduceCtorEq] at hc) <;> (try (exfalso; first | assumption | contradiction | omega)))
            all_goals (first | (refine E.QW.off rfl rfl rfl ?_) | (refine E.QW.pure rfl rfl rfl (E.PV.move rfl rfl) ?_))
            all_goals (first | (refine E.QW.off rfl rfl rfl ?_) | (refine E.QW.pure rfl rfl rfl (E.PV.move rfl rfl) ?_))
            all_goals (first | (refine E.QW.off rfl rfl rfl ?_) | (refine E.QW.pure rfl rfl rfl (E.PV.indexAddr1 (E.rdr (i := 0) rfl) Try.underlying31 in3 rfl rfl rfl rfl ?_ ?_) ?_; (focus (first | (simp; done) | (simp; omega))); (focus (omega))))
            all_goals (first | (refine E.QW.off rfl rfl rfl ?_) | (refine E.QW.pure rfl rfl rfl (E.PV.load_int (E.rdr (i := 0) rfl) na3 rfl rfl ?_) ?_; (focus (omega))))
            all_goals (first | (refine E.QW.off rfl rfl rfl ?_) | (refine E.QW.pure rfl rfl rfl (E.PV.fieldAddr fa24_2 rfl rfl) ?_))
            all_goals (first | (refine E.QW.off rfl rfl rfl ?_) | (refine E.QW.pure rfl rfl rfl (E.PV.load (i := 2) na22 rfl rfl rfl rfl) ?_))
            all_goals (first | (refine E.QW.off rfl rfl rfl ?_) | (refine E.QW.pure rfl rfl rfl (E.PV.len Try.underlying22 rfl rfl) ?_))
            all_goals (first | (refine E.QW.off rfl rfl rfl ?_) | (refine E.QW.pure rfl rfl rfl (E.PV.geq rfl rfl rfl) ?_))
            all_goals (first | (refine E.QW.pure rfl rfl rfl (E.PV.pick_t rfl rfl rfl) ?_) | (refine E.QW.pure rfl rfl rfl (E.PV.pick_f rfl rfl rfl) ?_))
            all_goals (refine E.QW.pure rfl rfl rfl (E.PV.move rfl rfl) ?_)
            all_goals (first | (refine E.QW.put 36 (.bool true) (v := .bool true) rfl rfl ?_) | (refine E.QW.split 36 rfl (fun hc => ?_) (fun hc => ?_) <;> (try simp only [E.b0, E.b1, E.b2, E.b3, E.b4, E.b5, E.b6, E.b7, E.b8, E.b9, E.b10, E.b11, E.b12, E.b13, E.b14, E.b15, E.b16, E.b17, E.b18, E.b19, E.b20, reduceCtorEq] at hc) <;> (try (exfalso; first | assumption | contradiction | omega))))
            all_goals (first | (refine E.QW.off rfl rfl rfl ?_) | (refine E.QW.pure rfl rfl rfl (E.PV.loads (i := 2) is24 rfl rfl rfl rfl) ?_))
            all_goals (first | (refine E.QW.off rfl rfl rfl ?_) | (refine E.QW.pure rfl rfl rfl (E.PV.move rfl rfl) ?_))
            all_goals (first | (refine E.QW.off rfl rfl rfl ?_) | (refine E.QW.pure rfl rfl rfl (E.PV.move rfl rfl) ?_))
            all_goals (first | (refine E.QW.off rfl rfl rfl ?_) | (refine E.QW.pure rfl rfl rfl (E.PV.move rfl rfl) ?_))
            all_goals (first | (refine E.QW.off rfl rfl rfl ?_) | (refine E.QW.pure rfl rfl rfl (E.PV.indexAddr1 (E.rdr (i := 0) rfl) Try.underlying31 in3 rfl rfl rfl rfl ?_ ?_) ?_; (focus (first | (simp; done) | (simp; omega))); (focus (omega))))
            all_goals (first | (refine E.QW.off rfl rfl rfl ?_) | (refine E.QW.pure rfl rfl rfl (E.PV.load_int (E.rdr (i := 0) rfl) na3 rfl rfl ?_) ?_; (focus (omega))))
            all_goals (first | (refine E.QW.off rfl rfl rfl ?_) | ((refine E.QW.call nm93 rfl rfl rfl rfl rfl rfl _ (fun w hw => E.Post.val (rOwn_ok _ _ _ _ _ _ _ w ?_ ?_)) ?_; (focus (omega)); (focus (refine hw.rd ?_; assumption)))))
            all_goals (first | (refine E.QW.off rfl rfl rfl ?_) | (refine E.QW.pure rfl rfl rfl (E.PV.not rfl rfl) ?_))
            all_goals (first | (refine E.QW.pure rfl rfl rfl (E.PV.pick_t rfl rfl rfl) ?_) | (refine E.QW.pure rfl rfl rfl (E.PV.pick_f rfl rfl rfl) ?_))
            all_goals (
              refine E.QW.nil ?_
              refine E.then_n ?_
              refine E.CW.cond rfl (fun hc => ?_) (fun hc => ?_)
              · simp only [E.b0, E.b1, E.b2, E.b3, E.b4, E.b5, E.b6, E.b7, E.b8, E.b9, E.b10, E.b11, E.b12, E.b13, E.b14, E.b15, E.b16, E.b17, E.b18, E.b19, E.b20, reduceCtorEq] at hc
                all_goals (
                  refine E.CW.seq ?_
                  refine E.CW.region ?_
                  refine E.OW.pure rfl rfl rfl (E.PV.assign rfl rfl) ?_
                  refine E.OW.nil ?_
                  refine E.then_n ?_
                  refine E.CW.ret ?_
                  refine E.then_ret ?_
                  refine E.blk_ret ?_
                  refine E.then_ret ?_
                  refine E.then_ret ?_
                  refine E.blk_ret ?_
                  refine E.then_ret ?_
                  refine E.KR.one [] Try.results144 rfl rfl ?_
                  have hbad : Cf.ownAt l t ((Cf.spots m.q).getD k 0) = false := (by first | exact Cf.ownAt_lo (by assumption) | exact Cf.ownAt_hi (by assumption) | exact Cf.ownAt_no (by assumption))
                  exact ⟨by rw [Cf.validTeam, Cf.all_bad (k := k) (by omega) hbad]; simp, rfl⟩)
              · first | ((cases hc; done)) | (simp only [E.b0, E.b1, E.b2, E.b3, E.b4, E.b5, E.b6, E.b7, E.b8, E.b9, E.b10, E.b11, E.b12, E.b13, E.b14, E.b15, E.b16, E.b17, E.b18, E.b19, E.b20, reduceCtorEq] at hc)
                all_goals (
                  refine E.CW.skip ?_
                  refine E.then_n ?_
                  refine E.CW.seq ?_
                  have hok : Cf.ownAt l t ((Cf.spots m.q).getD k 0) = true := Cf.ownAt_i (by omega) (by omega) (by assumption)
                  refine E.CW.region ?_
                  refine E.OW.pure rfl rfl rfl (E.PV.assign rfl rfl) ?_
                  refine E.OW.nil ?_
                  refine E.then_n ?_
                  refine E.CW.block ?_
                  refine E.CW.loopk [1, 3, 7, 8] 0 rfl rfl (fun mm mods Hm => ∃ i : Nat, mm = k - i ∧ mods = [(9, .int .i64 i)] ∧ Hm = [] ∧ (i ≤ k ∧ ∀ j, j < i → ¬ (Cf.spots m.q).getD j 0 = (Cf.spots m.q).getD k 0)) (k) ?_ ?_
                  · exact ⟨[(9, _)], (by repeat (first | exact E.cov_nil | refine ⟨rfl, ?_⟩)), 0, rfl, rfl, rfl, by omega, fun j hj => by omega⟩
                  · rintro _ _ _ ⟨i, rfl, rfl, rfl, hi, hJ⟩
                    refine E.CW.seq ?_
                    refine E.CW.seq ?_
                    refine E.CW.region ?_
                    refine E.OW.pure rfl rfl rfl (E.PV.move rfl rfl) ?_
                    refine E.OW.pure rfl rfl rfl (E.PV.move rfl rfl) ?_
                    refine E.OW.pure rfl rfl rfl (E.PV.lss rfl rfl rfl) ?_
                    refine E.OW.nil ?_
                    refine E.then_n ?_
                    refine E.CW.cond rfl (fun hc => ?_) (fun hc => ?_)
                    · simp only [E.b0, E.b1, E.b2, E.b3, E.b4, E.b5, E.b6, E.b7, E.b8, E.b9, E.b10, E.b11, E.b12, E.b13, E.b14, E.b15, E.b16, E.b17, E.b18, E.b19, E.b20, reduceCtorEq] at hc
                      all_goals (
                        refine E.CW.skip ?_
                        refine E.then_n ?_
                        refine E.CW.seq ?_
                        refine E.CW.block ?_
                        refine E.CW.seq ?_
                        refine E.CW.draw mixed (by kernel_rfl) ?_
                        refine E.QW.pure rfl rfl rfl (E.PV.move rfl rfl) ?_
                        refine E.QW.pure rfl rfl rfl (E.PV.move rfl rfl) ?_
                        refine E.QW.pure rfl rfl rfl (E.PV.indexAddr1 (E.rdr (i := 0) rfl) Try.underlying31 in3 rfl rfl rfl rfl ?_ ?_) ?_; (focus (first | (simp; done) | (simp; omega))); (focus (omega))
                        refine E.QW.pure rfl rfl rfl (E.PV.load_int (E.rdr (i := 0) rfl) na3 rfl rfl ?_) ?_; (focus (omega))
                        refine E.QW.pure rfl rfl rfl (E.PV.move rfl rfl) ?_
                        refine E.QW.pure rfl rfl rfl (E.PV.move rfl rfl) ?_
                        refine E.QW.pure rfl rfl rfl (E.PV.indexAddr1 (E.rdr (i := 0) rfl) Try.underlying31 in3 rfl rfl rfl rfl ?_ ?_) ?_; (focus (first | (simp; done) | (simp; omega))); (focus (omega))
                        refine E.QW.pure rfl rfl rfl (E.PV.load_int (E.rdr (i := 0) rfl) na3 rfl rfl ?_) ?_; (focus (omega))
                        refine E.QW.pure rfl rfl rfl (E.PV.eql rfl rfl rfl) ?_
                        refine E.QW.nil ?_
                        refine E.then_n ?_
                        refine E.CW.cond rfl (fun hc => ?_) (fun hc => ?_)
                        · simp only [E.b0, E.b1, E.b2, E.b3, E.b4, E.b5, E.b6, E.b7, E.b8, E.b9, E.b10, E.b11, E.b12, E.b13, E.b14, E.b15, E.b16, E.b17, E.b18, E.b19, E.b20, reduceCtorEq] at hc
                          all_goals (
                            refine E.CW.seq ?_
                            refine E.CW.region ?_
                            refine E.OW.pure rfl rfl rfl (E.PV.assign rfl rfl) ?_
                            refine E.OW.nil ?_
                            refine E.then_n ?_
                            refine E.CW.ret ?_
                            refine E.blk_ret ?_
                            refine E.then_ret ?_
                            refine E.then_ret ?_
                            refine E.blk_ret ?_
                            refine E.blk_ret ?_
                            refine E.then_ret ?_
                            refine E.then_ret ?_
                            refine E.blk_ret ?_
                            refine E.then_ret ?_
                            refine E.KR.one [] Try.results144 rfl rfl ?_
                            exact ⟨by rw [Cf.validTeam, decide_eq_false (Cf.nodup_bad (i := i) (k := k) (by omega) (by omega) (by assumption))]; simp, rfl⟩)
                        · simp only [E.b0, E.b1, E.b2, E.b3, E.b4, E.b5, E.b6, E.b7, E.b8, E.b9, E.b10, E.b11, E.b12, E.b13, E.b14, E.b15, E.b16, E.b17, E.b18, E.b19, E.b20, reduceCtorEq] at hc
                          all_goals (
                            refine E.CW.skip ?_
                            refine E.blk_n ?_
                            refine E.then_n ?_
                            refine E.CW.region ?_
                            refine E.OW.pure rfl rfl rfl (E.PV.move rfl rfl) ?_
                            refine E.OW.pure rfl rfl rfl (E.PV.add_i64 rfl rfl rfl ?_) ?_; (focus (omega))
                            refine E.OW.pure rfl rfl rfl (E.PV.assign rfl rfl) ?_
                            refine E.OW.nil ?_
                            refine E.then_nf ?_
                            refine ⟨_, [(9, _)], [0, 0, 0], _, ?_, by repeat (first | exact E.cov_nil | refine ⟨rfl, ?_⟩), rfl, i + 1, rfl, rfl, rfl, by omega, Cf.next_all hJ (by assumption)⟩
                            omega))
                    · simp only [E.b0, E.b1, E.b2, E.b3, E.b4, E.b5, E.b6, E.b7, E.b8, E.b9, E.b10, E.b11, E.b12, E.b13, E.b14, E.b15, E.b16, E.b17, E.b18, E.b19, E.b20, reduceCtorEq] at hc
                      all_goals (
                        refine E.CW.exit ?_
                        refine E.then_x ?_
                        refine E.then_x ?_
                        refine E.blk_eq ?_
                        refine E.blk_n ?_
                        refine E.then_n ?_
                        refine E.CW.region ?_
                        refine E.OW.pure rfl rfl rfl (E.PV.move rfl rfl) ?_
                        refine E.OW.pure rfl rfl rfl (E.PV.add_i64 rfl rfl rfl ?_) ?_; (focus (omega))
                        refine E.OW.pure rfl rfl rfl (E.PV.assign rfl rfl) ?_
                        refine E.OW.nil ?_
                        refine E.then_nf ?_
                        refine ⟨_, [(8, _)], [0, 0, 0], _, ?_, by repeat (first | exact E.cov_nil | refine ⟨rfl, ?_⟩), rfl, k + 1, rfl, rfl, rfl, by omega, Cf.next_all hI hok, Cf.nodup_take hN (by omega) (fun j hj => hJ j (by omega))⟩
                        omega))))
        · simp only [E.b0, E.b1, E.b2, E.b3, E.b4, E.b5, E.b6, E.b7, E.b8, E.b9, E.b10, E.b11, E.b12, E.b13, E.b14, E.b15, E.b16, E.b17, E.b18, E.b19, E.b20, reduceCtorEq] at hc
          all_goals (
            refine E.CW.exit ?_
            refine E.then_x ?_
            refine E.then_x ?_
            refine E.blk_eq ?_
            refine E.then_n ?_
            refine E.CW.seq ?_
            refine E.CW.region ?_
            refine E.OW.pure rfl rfl rfl (E.PV.assign rfl rfl) ?_
            refine E.OW.nil ?_
            refine E.then_n ?_
            refine E.CW.ret ?_
            refine E.KR.one [] Try.results144 rfl rfl ?_
            have hkk : k = (Cf.spots m.q).length := by omega
            rw [hkk, List.take_length] at hN
            exact ⟨by rw [Cf.validTeam, hnn, Cf.all_good (z := 0) (fun j hj => hI j (by omega)), decide_eq_true hN]; rfl, rfl⟩))
end Go.Proofs.Ytflkbabhbnmajaa
