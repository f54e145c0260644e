/- Slices of teams that the function makes and writes; teams and configs that hold nothing; a slice compared with nil. No program in sight. -/
import Derived.Test.YteibcphdbkgcgaaMp
import Derived.Lib.SliceRun
namespace Go.Proofs.Yteibcphdbkgcgaa
namespace E
open Go Go.RowKit
set_option linter.unusedSimpArgs false
set_option linter.unusedVariables false
section
variable {P : Program} {n : Nat} {w0 : World} {F : Nat → Prop} {K : Kt} {l : Env} {H : List HP} {o : Oper}

theorem PV.slnil {t t' e : TypeId} {x y : Operand} {A : Option Addr} {m c m' c' : Nat} (hT : P.underlying t = some (.slice e)) (ho : o.op = .binOp .eql t x y t') (hx : ev l x = some (.slice A m c)) (hy : ev l y = some (.slice none m' c')) : PV P n w0 F l H o (.bool A.isNone) :=
  PV.bin ho hx hy (by simp [eqGuard]) fun w => Lib.run_eql_slice_nil w t e A m c m' c' hT

theorem tms_set : ∀ {ts : List Tm} {j : Nat} {m : Tm}, j < ts.length → tms (ts.set j m) = (tms ts).take (j * 8) ++ m.cells ++ (tms ts).drop (j * 8 + 8) := by
  intro ts
  induction ts with
  | nil => intro j m h; simp at h
  | cons q r ih =>
    intro j m h
    have h8 : q.cells.length = 8 := rfl
    cases j with
    | zero =>
      simp only [List.set_cons_zero, tms, Nat.zero_mul, List.take_zero, List.nil_append, Nat.zero_add]
      rw [List.drop_append, h8, Nat.sub_self, List.drop_of_length_le (by omega)]
      simp
    | succ j =>
      have e1 : (q.cells ++ tms r).take ((j + 1) * 8) = q.cells ++ (tms r).take (j * 8) := by
        rw [List.take_append, h8, List.take_of_length_le (by omega), show (j + 1) * 8 - 8 = j * 8 by omega]
      have e2 : (q.cells ++ tms r).drop ((j + 1) * 8 + 8) = (tms r).drop (j * 8 + 8) := by
        rw [List.drop_append, h8, List.drop_of_length_le (by omega), show (j + 1) * 8 + 8 - 8 = j * 8 + 8 by omega, List.nil_append]
      simp only [List.set_cons_succ, tms]
      rw [e1, e2, ih (by simpa using h)]
      simp only [List.append_assoc]
theorem take_splice {α : Type} (xs ys : List α) (a n : Nat) (h1 : a + ys.length ≤ n) (h2 : n ≤ xs.length) : (xs.take a ++ ys ++ xs.drop (a + ys.length)).take n = (xs.take n).take a ++ ys ++ (xs.take n).drop (a + ys.length) := by
  have hl : (xs.take a ++ ys).length = a + ys.length := by rw [List.length_append, List.length_take, Nat.min_eq_left (by omega)]
  rw [List.take_append, hl, List.take_of_length_le (by omega : (xs.take a ++ ys).length ≤ n), List.take_take, Nat.min_eq_left (by omega), List.drop_take]
theorem erase_perm {α : Type} : ∀ {l : List α} {j : Nat} (h : j < l.length), l.Perm (l[j] :: l.eraseIdx j) := by
  intro l
  induction l with
  | nil => intro j h; simp at h
  | cons a r ih =>
    intro j h
    cases j with
    | zero => exact List.Perm.refl _
    | succ j =>
      simp only [List.getElem_cons_succ, List.eraseIdx_cons_succ]
      exact ((ih (by simpa using h)).cons a).trans (List.Perm.swap _ _ _)

theorem OW.make_tms {ops : Array Oper} {rest : List Oper} {d t Et bytes : Nat} {x y : Operand} {kx ky : IntKind} {px : Int} (m : Nat) (hT : P.underlying t = some (.slice Et)) (hI : In P Et Tm.z.v 8 bytes)
    (ho : o.op = .makeSlice t x y) (hg : gd ops l o.guard = some true) (hd : o.dst = some d) (hn : Nat.blt d n = true) (hx : ev l x = some (.int kx px)) (hy : ev l y = some (.int ky px)) (hm : px = (m : Int))
    (hmax : m ≤ maxLen) (hb : bytes * m ≤ 281474976710656)
    (k : ∀ A, OW P n w0 F ops K rest ((d, .slice A m m) :: l) (HP.row Et 8 A m m (tms (List.replicate m Tm.z)) :: H)) : OW P n w0 F ops K (o :: rest) l H :=
  OW.step hg hd hn (fun v H' => ∃ A, v = .slice A m m ∧ H' = HP.row Et 8 A m m (tms (List.replicate m Tm.z)) :: H)
    (fun a w ha hw => by
      obtain ⟨inf, hinf, hz0, hz1, hz2⟩ := hI.parts
      subst hm hz2
      have hb' : (inf.bytes : Int) * (m : Int) ≤ 281474976710656 := by
        have h : ((inf.bytes * m : Nat) : Int) ≤ 281474976710656 := by omega
        rwa [Int.natCast_mul] at h
      have hmax' : (m : Int) ≤ 9223372036854775807 := by unfold maxLen at hmax; omega
      have hr := run_make (P := P) w t Et inf Tm.z.v hT hinf hz0 kx ky m m (by omega) (by omega) hb' hmax'
      have hcs : (madeCells Tm.z.v.cells (m * inf.size)) = (tms (List.replicate m Tm.z)).toArray := by
        rw [hz1]
        apply Array.ext
        · simp [madeCells]
        · intro i h1 h2
          have hi : i < m * 8 := by simpa [madeCells] using h1
          have hj : i % 8 < Tm.z.cells.length := by simp [Tm.cells]; omega
          have h3 := tms_get (ts := List.replicate m Tm.z) (k := i / 8) (j := i % 8) (v := Tm.z.cells[i % 8]) (by simp; omega) (by simp [List.getD, show i / 8 < m by omega])
          rw [show i / 8 * 8 + i % 8 = i by omega] at h3
          have h4 : (tms (List.replicate m Tm.z)).toArray[i]'h2 = Tm.z.cells[i % 8] := by
            have : (tms (List.replicate m Tm.z))[i]? = some ((tms (List.replicate m Tm.z)).toArray[i]'h2) := by simp
            rw [h3] at this
            injection this with this
            exact this.symm
          rw [h4]
          have h8 : Tm.z.v.cells = Tm.z.cells.toArray := rfl
          have h9 : Tm.z.cells.length = 8 := rfl
          simp only [madeCells, h8, Array.getElem_map, Array.getElem_range, List.size_toArray, h9]
          rw [getElem!_pos _ _ (by simp only [List.size_toArray, h9]; omega)]
          rfl
      simp only [Int.toNat_natCast, hcs] at hr
      exact ⟨_, _, _, by simp [execOp, ho, ha.ev hx, ha.ev hy, hr], ⟨_, rfl, rfl⟩, hw.new _ (Chunks.new_row (by simp) hmax)⟩)
    (fun v H' ⟨A, hv, hH⟩ => by subst hv hH; exact k A)

/-- a team stored into a slice of teams of the function's own. -/
theorem OW.store_tm {ops : Array Oper} {rest : List Oper} {t : TypeId} {x y : Operand} {Et i m c j : Nat} {A : Option Addr} {q : Tm} {ts : List Tm} {H' : List HP} (hsz : ∀ w, (sizeOf t).run P w = .ok 8 w) (ho : o.op = .store t x y)
    (hg : gd ops l o.guard = some true) (hd : o.dst = none) (hx : ev l x = some (eptr A (j * 8))) (hy : ev l y = some q.v)
    (hi : sel H i = some (HP.row Et 8 A m c (tms ts), H')) (hj : j < m) (hm : ts.length = m) (k : OW P n w0 F ops K rest l (HP.row Et 8 A m c (tms (ts.set j q)) :: H')) : OW P n w0 F ops K (o :: rest) l H :=
  OW.act hg hd (fun a w ha hw => by
    have hown := hw.row hi
    rcases hown.2 with ⟨hv, hm0⟩ | ⟨g, cap, cur, hv, _, hgg, hnc, hcap, hcs, htk⟩
    · omega
    · injection hv with hA _ hcc
      subst hA hcc
      have hx' : ev l x = some (.pointer (some ⟨g, j * 8, .none⟩)) := by
        rw [hx]
        unfold eptr
        simp only [Option.map_some, Option.some.injEq, Value.pointer.injEq]
        unfold Addr.add
        split <;> simp_all
      have h8 : q.cells.length = 8 := rfl
      have hst := run_storeCells_at P g (j * 8) Et q.cells 0 cur w hgg (by rw [h8]; omega) (fun u hu => q.one u hu)
      refine ⟨w.setRow g (cur.toList.take (j * 8) ++ q.cells ++ cur.toList.drop (j * 8 + 8)).toArray, ?_, ?_⟩
      · have hc : q.v.cells = q.cells.toArray := rfl
        simp [execOp, ho, ha.ev hx', ha.ev hy, Instr.storeAt, Instr.sureAddr, storeVar, hc, h8, hsz w]
        simp [h8] at hst
        rw [hst]
        rfl
      · refine (hw.sel hi).regrow (A := some ⟨g, 0, .none⟩) (A' := some ⟨g, 0, .none⟩) (m := m) (m' := m) (c := c) (c' := c) (xs := tms ts) ?_ ?_ (.inl rfl)
        · refine ⟨rfl, rfl, rfl, by simp [World.setRow], fun k hk hne => ?_⟩
          simp only [World.setRow, Array.getElem?_modify]
          rw [if_neg (fun e => hne (by simp [Value.ownBlock, e]))]
        · refine ⟨by simp [hm], .inr ⟨g, c, _, rfl, Nat.zero_le _, setRow_heap w g cur _ Et _ hgg, hnc, hcap, ?_, ?_⟩⟩
          · simp only [List.size_toArray, List.length_append, List.length_take, List.length_drop, Array.length_toList, h8]
            omega
          · have hs := take_splice cur.toList q.cells (j * 8) (m * 8) (by rw [h8]; omega) (by simp only [Array.length_toList]; rw [hcs]; omega)
            rw [h8] at hs
            rw [tms_set (by omega), ← htk, List.toList_toArray]
            exact hs) k

/-! ### Nothing -/
theorem Chunks.tms_z {w : World} {U : Nat → Prop} {r : List HP} (k : Nat) (h : Chunks w U r) : Chunks w U (HP.tms (List.replicate k Tm.z) :: r) := by
  refine ⟨fun _ => False, ?_, fun _ hk => hk.elim, h.congr fun q => by simp⟩
  show bagS w (fun _ => False) ((List.replicate k Tm.z).map HP.tm)
  have hrow : (HP.row 3 1 .none 0 0 []).sem (fun _ => False) w := ⟨fun k => by simp [Value.ownBlock], World.ownsRow_nil w 0 3 1⟩
  have hz : (HP.tm Tm.z).sem (fun _ => False) w :=
    ⟨fun _ => False, fun _ => False, fun _ => by simp, fun _ h => h.elim, hrow, fun _ => False, fun _ => False, fun _ => by simp, fun _ h => h.elim, hrow, fun _ => False, fun _ => False, fun _ => by simp, fun _ h => h.elim, hrow, fun _ h => h⟩
  induction k with
  | zero => exact fun _ h => h
  | succ k ih => exact ⟨fun _ => False, fun _ => False, fun _ => by simp, fun _ h => h.elim, hz, ih⟩
theorem CW.tmsz {c : Code} (k : Nat) (h : CW P n w0 F c K l (HP.tms (List.replicate k Tm.z) :: H)) : CW P n w0 F c K l H := CW.conv (fun w U hc => Chunks.tms_z k hc) h
/-- the j-th team becomes another one. -/
theorem CW.tmsput {c : Code} {H1 : List HP} {m : Tm} {ts : List Tm} (i k j : Nat) {H2 : List HP} (hi : sel H i = some (HP.tm m, H1)) (hk : sel H1 k = some (HP.tms ts, H2)) (hj : j < ts.length) (h : CW P n w0 F c K l (HP.tms (ts.set j m) :: H2)) : CW P n w0 F c K l H := fun a w ha hw => by
  have h1 := hw.perm ((sel_perm hi).trans ((sel_perm hk).cons _))
  refine h a w ha { h1 with chunks := ?_ }
  obtain ⟨S, g1, b1, T, g2, b2, g3⟩ := h1.chunks
  have hp : (ts.map HP.tm).Perm (HP.tm ts[j] :: (ts.eraseIdx j).map HP.tm) := by
    rw [← List.map_cons]; exact (erase_perm hj).map _
  have hq : (HP.tm m :: (ts.eraseIdx j).map HP.tm).Perm ((ts.set j m).map HP.tm) := by
    rw [← List.map_cons]
    refine List.Perm.map _ ?_
    have := (erase_perm (l := ts.set j m) (j := j) (by simpa using hj)).symm
    rwa [List.getElem_set_self, List.eraseIdx_set_eq] at this
  obtain ⟨T1, T2, e1, e2, e3, e4⟩ := bagS_perm hp g2
  refine ⟨fun q => S q ∨ T2 q, bagS_perm hq ⟨S, T2, fun _ => Iff.rfl, fun q hq ht => (b2 q ((e1 q).2 (.inr ht))).2 (.inr hq), g1, e4⟩, fun q hq => ?_, g3.mono fun q hq => ?_⟩
  · rcases hq with hq | hq
    · exact b1 q hq
    · have := b2 q ((e1 q).2 (.inr hq))
      exact ⟨this.1, fun hu => this.2 (.inl hu)⟩
  · rcases hq with hq | hq | hq
    · exact .inl (.inl hq)
    · exact .inl (.inr hq)
    · exact .inr ((e1 q).2 (.inr hq))
def Cfg.z : Cfg := ⟨0, 0, [], [], [], 0, .none, 0, .none, 0, .none, 0⟩
theorem Chunks.cfg_z {w : World} {U : Nat → Prop} {r : List HP} (h : Chunks w U r) : Chunks w U (HP.cfg Cfg.z :: r) := by
  refine ⟨fun _ => False, ?_, fun _ hk => hk.elim, h.congr fun q => by simp⟩
  have hrow : ∀ e s, (HP.row e s .none 0 0 []).sem (fun _ => False) w := fun e s => ⟨fun k => by simp [Value.ownBlock], World.ownsRow_nil w 0 e s⟩
  exact ⟨fun _ => False, fun _ => False, fun _ => by simp, fun _ h => h.elim, hrow 5 1, fun _ => False, fun _ => False, fun _ => by simp, fun _ h => h.elim, hrow 5 1, fun _ => False, fun _ => False, fun _ => by simp, fun _ h => h.elim, hrow 52 8,
    fun _ => False, fun _ => False, fun _ => by simp, fun _ h => h.elim, (fun _ h => h), fun _ h => h⟩
theorem CW.cfgz {c : Code} (h : CW P n w0 F c K l (HP.cfg Cfg.z :: H)) : CW P n w0 F c K l H := CW.conv (fun w U hc => Chunks.cfg_z hc) h
end
end E
namespace Cf
/-! ### A list whose entries are turned one after the other -/
def upd (f : UInt8 → UInt8) (l : List UInt8) (k : Nat) : List UInt8 := (l.take k).map f ++ l.drop k
@[simp] theorem upd_len (f : UInt8 → UInt8) (l : List UInt8) (k : Nat) : (upd f l k).length = l.length := by simp [upd]; omega
theorem upd_zero (f : UInt8 → UInt8) (l : List UInt8) : upd f l 0 = l := by simp [upd]
theorem upd_end (f : UInt8 → UInt8) (l : List UInt8) : upd f l l.length = l.map f := by simp [upd]
theorem upd_get {f : UInt8 → UInt8} {l : List UInt8} {k : Nat} (h : k < l.length) : (upd f l k).getD k 0 = l.getD k 0 := by
  unfold upd
  rw [List.getD_eq_getElem?_getD, List.getElem?_append_right (by simp; omega), List.length_map, List.length_take, Nat.min_eq_left (by omega), Nat.sub_self, List.getElem?_drop, Nat.add_zero, ← List.getD_eq_getElem?_getD]
theorem upd_step {f : UInt8 → UInt8} {l : List UInt8} {k : Nat} (h : k < l.length) {x : UInt8} (e : f (l.getD k 0) = x) : (upd f l k).set k x = upd f l (k + 1) := by
  subst e
  unfold upd
  rw [List.take_add_one, List.getElem?_eq_getElem h, Option.toList_some, List.map_append, List.set_append_right _ _ (by simp; omega), List.length_map, List.length_take, Nat.min_eq_left (by omega), Nat.sub_self, List.drop_eq_getElem_cons h, List.set_cons_zero]
  simp only [List.getD, List.getElem?_eq_getElem h, Option.getD_some, List.map_cons, List.map_nil, List.append_assoc, List.cons_append, List.nil_append]
theorem upd_same {f : UInt8 → UInt8} {l : List UInt8} {k : Nat} (h : k < l.length) (e : f (l.getD k 0) = l.getD k 0) : upd f l k = upd f l (k + 1) := by
  rw [← upd_step h rfl, e]
  apply List.ext_getElem?
  intro i
  rw [List.getElem?_set]
  split
  · rename_i hi
    subst hi
    have := upd_get (f := f) h
    rw [← this, List.getD_eq_getElem?_getD, List.getElem?_eq_getElem (by simpa using h)]
    simp [h]
  · rfl
theorem map_succ {f : UInt8 → UInt8} {l : List UInt8} {k : Nat} (h : k < l.length) {x : UInt8} (e : f (l.getD k 0) = x) : (l.take k).map f ++ [x] = (l.take (k + 1)).map f := by
  subst e
  rw [List.take_add_one, List.getElem?_eq_getElem h, Option.toList_some, List.map_append]
  simp [List.getD, h]
def oc (t : Int) (v : UInt8) : UInt8 := if (v.toNat : Int) = t + 1 ∨ (v.toNat : Int) = 255 then v else 0
def os (t : Int) (v : UInt8) : UInt8 := if (v.toNat : Int) = t + 1 then v else 0
def oneTeam (ts : List T) (t : Int) (k : Nat) : List T := (List.range k).map fun (i : Nat) => if (i : Int) = t then ts.getD i T.z else T.z
def only (g : C) (t : Int) : C := ⟨g.a, g.b, g.l.map (oc t), g.s.map (os t), oneTeam g.ts t g.ts.length, g.st⟩
def zero : C := ⟨0, 0, [], [], [], 0⟩
theorem oneTeam_succ (ts : List T) (t : Int) (k : Nat) : oneTeam ts t (k + 1) = oneTeam ts t k ++ [if (k : Int) = t then ts.getD k T.z else T.z] := by
  unfold oneTeam; rw [List.range_succ, List.map_append]; rfl
theorem oneTeam_set {ts : List T} {t : Int} (h : 0 ≤ t ∧ t < ts.length) : (List.replicate ts.length T.z).set t.toNat (ts.getD t.toNat T.z) = oneTeam ts t ts.length := by
  apply List.ext_getElem (by simp [oneTeam])
  intro i h1 h2
  simp only [oneTeam, List.getElem_map, List.getElem_range, List.getElem_set, List.getElem_replicate]
  by_cases hi : t.toNat = i
  · rw [if_pos hi, if_pos (by omega), hi]
  · rw [if_neg hi, if_neg (by omega)]
end Cf
end Go.Proofs.Yteibcphdbkgcgaa
