/- Part 3 of the texts behind the laws RouteApart, RoutePeriod, RouteRest, RouteRows, RouteWaits: the logic, plain laws and walks that they need, for any input that these speak of. -/
import Derived.Test.YtflkbabhbnmajaaK2
/- Rows of rows, and the plan in memory. -/
set_option linter.unusedSimpArgs false
set_option linter.unusedVariables false
namespace Go.Proofs.Ytflkbabhbnmajaa
namespace E
open Go Go.RowKit

/-! ### Cells by a function -/
def bls (m : Nat) (f : Nat → Bool) : List Value := (List.range m).map fun i => .bool (f i)
def iis (m : Nat) (f : Nat → Int) : List Value := (List.range m).map fun i => .int .i64 (f i)
def slc2 (m : Nat) (A : Nat → Option Addr) (len c : Nat → Nat) : List Value := (List.range m).map fun i => .slice (A i) (len i) (c i)
@[simp] theorem bls_length (m : Nat) (f : Nat → Bool) : (bls m f).length = m := by simp [bls]
@[simp] theorem iis_length (m : Nat) (f : Nat → Int) : (iis m f).length = m := by simp [iis]
@[simp] theorem slc2_length (m : Nat) (A : Nat → Option Addr) (len c : Nat → Nat) : (slc2 m A len c).length = m := by simp [slc2]
def up {α : Type} (f : Nat → α) (k : Nat) (v : α) : Nat → α := fun i => if i = k then v else f i
theorem up_same {α : Type} (f : Nat → α) (k : Nat) (v : α) : up f k v k = v := if_pos rfl
theorem up_ne {α : Type} (f : Nat → α) {k i : Nat} (v : α) (h : i ≠ k) : up f k v i = f i := if_neg h
theorem range_set {α : Type} (m : Nat) (f : Nat → α) (g : Nat → Value) (h : α → Value) (k : Nat) (v : α) (hg : ∀ i, g i = h (f i)) :
    ((List.range m).map g).set k (h v) = (List.range m).map fun i => h (up f k v i) := by
  apply List.ext_getElem (by simp)
  intro i h1 h2
  simp only [List.length_set, List.length_map, List.length_range] at h1
  rw [List.getElem_set]
  simp only [List.getElem_map, List.getElem_range]
  by_cases e : k = i
  · subst e; rw [if_pos rfl, up_same]
  · rw [if_neg e, up_ne f v (fun e' => e e'.symm), hg]
theorem bls_set (m : Nat) (f : Nat → Bool) (k : Nat) (v : Bool) : (bls m f).set k (.bool v) = bls m (up f k v) := range_set m f _ .bool k v fun _ => rfl
theorem iis_set (m : Nat) (f : Nat → Int) (k : Nat) (v : Int) : (iis m f).set k (.int .i64 v) = iis m (up f k v) := range_set m f _ (.int .i64) k v fun _ => rfl
theorem bls_rep (m : Nat) : List.replicate m (.bool false) = bls m fun _ => false := by
  apply List.ext_getElem (by simp); intro i h1 h2; simp [bls]
theorem iis_rep (m : Nat) : List.replicate m (.int .i64 0) = iis m fun _ => 0 := by
  apply List.ext_getElem (by simp); intro i h1 h2; simp [iis]
theorem slc2_rep (m : Nat) : List.replicate m (.slice none 0 0) = slc2 m (fun _ => none) (fun _ => 0) fun _ => 0 := by
  apply List.ext_getElem (by simp); intro i h1 h2; simp [slc2]
theorem slc2_set (m : Nat) (A : Nat → Option Addr) (len c : Nat → Nat) (k : Nat) (A' : Option Addr) (l' c' : Nat) :
    (slc2 m A len c).set k (.slice A' l' c') = slc2 m (up A k A') (up len k l') (up c k c') := by
  apply List.ext_getElem (by simp)
  intro i h1 h2
  simp only [List.length_set, slc2_length] at h1
  rw [List.getElem_set]
  simp only [slc2, List.getElem_map, List.getElem_range]
  by_cases e : k = i
  · subst e; simp [up_same]
  · rw [if_neg e, up_ne _ _ (fun e' => e e'.symm), up_ne _ _ (fun e' => e e'.symm), up_ne _ _ (fun e' => e e'.symm)]
theorem slc2_snoc (m : Nat) (A : Nat → Option Addr) (len c : Nat → Nat) (A' : Option Addr) (l' c' : Nat) :
    slc2 m A len c ++ [.slice A' l' c'] = slc2 (m + 1) (up A m A') (up len m l') (up c m c') := by
  unfold slc2
  rw [List.range_succ, List.map_append, List.map_cons, List.map_nil, up_same, up_same, up_same]
  congr 1
  apply List.map_congr_left
  intro i hi
  have := List.mem_range.1 hi
  rw [up_ne _ _ (by omega), up_ne _ _ (by omega), up_ne _ _ (by omega)]
section
variable {P : Program} {n : Fr} {w0 : World} {F : Nat → Prop} {K : Kt} {l : Env} {H : List HP} {o : Oper}

/-! ### Loads, stores, makes -/
theorem PV.load_bl {t : TypeId} {x : Operand} {A : Option Addr} {k m : Nat} {f : Nat → Bool} (hR : ∀ w, HA w0 F H w → Rd w (Old w) A (bls m f)) (ht : Na P t) (ho : o.op = .load t x) (hx : ev l x = some (eptr A k)) (hk : k < m) :
    PV P n w0 F l H o (.bool (f k)) := PV.load_of hR ht ho hx (by simp [bls, hk])
theorem PV.load_ii {t : TypeId} {x : Operand} {A : Option Addr} {k m : Nat} {f : Nat → Int} (hR : ∀ w, HA w0 F H w → Rd w (Old w) A (iis m f)) (ht : Na P t) (ho : o.op = .load t x) (hx : ev l x = some (eptr A k)) (hk : k < m) :
    PV P n w0 F l H o (.int .i64 (f k)) := PV.load_of hR ht ho hx (by simp [iis, hk])
theorem PV.load_s2 {t : TypeId} {x : Operand} {A : Option Addr} {k m : Nat} {B : Nat → Option Addr} {len c : Nat → Nat} (hR : ∀ w, HA w0 F H w → Rd w (Old w) A (slc2 m B len c)) (ht : Na P t) (ho : o.op = .load t x) (hx : ev l x = some (eptr A k)) (hk : k < m) :
    PV P n w0 F l H o (.slice (B k) (len k) (c k)) := PV.load_of hR ht ho hx (by simp [slc2, hk])
theorem OW.store_bl {ops : Array Oper} {rest : List Oper} {t : TypeId} {x y : Operand} {Et i m c j : Nat} {A : Option Addr} {b : Bool} {f : Nat → Bool} {H' : List HP} (hsz : ∀ w, (sizeOf t).run P w = .ok 1 w) (ho : o.op = .store t x y)
    (hg : gd ops l o.guard = some true) (hd : o.dst = none) (hx : ev l x = some (eptr A j)) (hy : ev l y = some (.bool b))
    (hi : sel H i = some (HP.row Et 1 A m c (bls m f), H')) (hj : j < m) (k : OW P n w0 F ops K rest l (HP.row Et 1 A m c (bls m (up f j b)) :: H')) : OW P n w0 F ops K (o :: rest) l H :=
  OW.store_row hsz ho hg hd hx hy rfl rfl hi hj (by rw [bls_set]; exact k)
theorem OW.store_ii {ops : Array Oper} {rest : List Oper} {t : TypeId} {x y : Operand} {Et i m c j : Nat} {A : Option Addr} {b : Int} {f : Nat → Int} {H' : List HP} (hsz : ∀ w, (sizeOf t).run P w = .ok 1 w) (ho : o.op = .store t x y)
    (hg : gd ops l o.guard = some true) (hd : o.dst = none) (hx : ev l x = some (eptr A j)) (hy : ev l y = some (.int .i64 b))
    (hi : sel H i = some (HP.row Et 1 A m c (iis m f), H')) (hj : j < m) (k : OW P n w0 F ops K rest l (HP.row Et 1 A m c (iis m (up f j b)) :: H')) : OW P n w0 F ops K (o :: rest) l H :=
  OW.store_row hsz ho hg hd hx hy rfl rfl hi hj (by rw [iis_set]; exact k)
theorem OW.store_s2 {ops : Array Oper} {rest : List Oper} {t : TypeId} {x y : Operand} {Et i m cc j l' c' : Nat} {A A' : Option Addr} {B : Nat → Option Addr} {len c : Nat → Nat} {H' : List HP} (hsz : ∀ w, (sizeOf t).run P w = .ok 1 w) (ho : o.op = .store t x y)
    (hg : gd ops l o.guard = some true) (hd : o.dst = none) (hx : ev l x = some (eptr A j)) (hy : ev l y = some (.slice A' l' c'))
    (hi : sel H i = some (HP.row Et 1 A m cc (slc2 m B len c), H')) (hj : j < m) (k : OW P n w0 F ops K rest l (HP.row Et 1 A m cc (slc2 m (up B j A') (up len j l') (up c j c')) :: H')) : OW P n w0 F ops K (o :: rest) l H :=
  OW.store_row hsz ho hg hd hx hy rfl rfl hi hj (by rw [slc2_set]; exact k)
theorem OW.make_bl {ops : Array Oper} {rest : List Oper} {d : Nat} {t Et bytes : Nat} {x y : Operand} {kx ky : IntKind} {px : Int} (m : Nat) (hT : P.underlying t = some (.slice Et)) (hI : In P Et (.bool false) 1 bytes)
    (ho : o.op = .makeSlice t x y) (hg : gd ops l o.guard = some true) (hd : o.dst = some d) (hn : Nat.blt d n.sz = true) (hx : ev l x = some (.int kx px)) (hy : ev l y = some (.int ky px)) (hm : px = (m : Int))
    (hmax : m ≤ maxLen) (hb : bytes * m ≤ 281474976710656)
    (k : ∀ A, OW P n w0 F ops K rest ((d, .slice A m m) :: l) (HP.row Et 1 A m m (bls m fun _ => false) :: H)) : OW P n w0 F ops K (o :: rest) l H :=
  OW.make m hT hI rfl ho hg hd hn hx hy hm hmax hb (fun A => by rw [bls_rep]; exact k A)
theorem OW.make_ii {ops : Array Oper} {rest : List Oper} {d : Nat} {t Et bytes : Nat} {x y : Operand} {kx ky : IntKind} {px : Int} (m : Nat) (hT : P.underlying t = some (.slice Et)) (hI : In P Et (.int .i64 0) 1 bytes)
    (ho : o.op = .makeSlice t x y) (hg : gd ops l o.guard = some true) (hd : o.dst = some d) (hn : Nat.blt d n.sz = true) (hx : ev l x = some (.int kx px)) (hy : ev l y = some (.int ky px)) (hm : px = (m : Int))
    (hmax : m ≤ maxLen) (hb : bytes * m ≤ 281474976710656)
    (k : ∀ A, OW P n w0 F ops K rest ((d, .slice A m m) :: l) (HP.row Et 1 A m m (iis m fun _ => 0) :: H)) : OW P n w0 F ops K (o :: rest) l H :=
  OW.make m hT hI rfl ho hg hd hn hx hy hm hmax hb (fun A => by rw [iis_rep]; exact k A)
theorem OW.make_s2 {ops : Array Oper} {rest : List Oper} {d : Nat} {t Et bytes : Nat} {x y : Operand} {kx ky : IntKind} {px : Int} (m : Nat) (hT : P.underlying t = some (.slice Et)) (hI : In P Et (.slice none 0 0) 1 bytes)
    (ho : o.op = .makeSlice t x y) (hg : gd ops l o.guard = some true) (hd : o.dst = some d) (hn : Nat.blt d n.sz = true) (hx : ev l x = some (.int kx px)) (hy : ev l y = some (.int ky px)) (hm : px = (m : Int))
    (hmax : m ≤ maxLen) (hb : bytes * m ≤ 281474976710656)
    (k : ∀ A, OW P n w0 F ops K rest ((d, .slice A m m) :: l) (HP.row Et 1 A m m (slc2 m (fun _ => none) (fun _ => 0) fun _ => 0) :: H)) : OW P n w0 F ops K (o :: rest) l H :=
  OW.make m hT hI rfl ho hg hd hn hx hy hm hmax hb (fun A => by rw [slc2_rep]; exact k A)

/-! ### Rows of rows -/
/-- m slices of the function's own, each with a block of its own. -/
def HP.rows (Et m : Nat) (A : Nat → Option Addr) (len c : Nat → Nat) (xs : Nat → List Value) : HP := HP.bag ((List.range m).map fun k => HP.row Et 1 (A k) (len k) (c k) (xs k))
theorem rows_perm {α : Type} (m k : Nat) (hk : k < m) (f g : Nat → α) (hg : ∀ i, i ≠ k → g i = f i) : ∃ r : List α, ((List.range m).map f).Perm (f k :: r) ∧ ((List.range m).map g).Perm (g k :: r) := by
  have hp := List.perm_cons_erase (List.mem_range.2 hk)
  refine ⟨((List.range m).erase k).map f, by simpa using hp.map f, ?_⟩
  have h2 : ((List.range m).erase k).map g = ((List.range m).erase k).map f := by
    apply List.map_congr_left
    intro i hi
    exact hg i ((List.Nodup.mem_erase_iff (List.nodup_range)).1 hi).1
  rw [← h2]
  simpa using hp.map g
/-- a row out of the rows, and one back. -/
theorem OW.rows_out {ops : Array Oper} {rest : List Oper} {Et m k : Nat} {A A' : Nat → Option Addr} {len len' c c' : Nat → Nat} {xs xs' : Nat → List Value} {H' : List HP} (i : Nat) (hi : E.sel H i = some (HP.rows Et m A len c xs, H')) (hk : k < m)
    (hg : ∀ j, j ≠ k → HP.row Et 1 (A' j) (len' j) (c' j) (xs' j) = HP.row Et 1 (A j) (len j) (c j) (xs j))
    (h : ∀ r : HP, (∀ l1 R (K1 : Kt) (rest1 : List Oper), OW P n w0 F ops K1 rest1 l1 (HP.rows Et m A' len' c' xs' :: R) → OW P n w0 F ops K1 rest1 l1 (HP.row Et 1 (A' k) (len' k) (c' k) (xs' k) :: r :: R)) →
      OW P n w0 F ops K rest l (HP.row Et 1 (A k) (len k) (c k) (xs k) :: r :: H')) : OW P n w0 F ops K rest l H := by
  obtain ⟨r, h1, h2⟩ := rows_perm m k hk (fun k => HP.row Et 1 (A k) (len k) (c k) (xs k)) (fun k => HP.row Et 1 (A' k) (len' k) (c' k) (xs' k)) hg
  intro a w ha hw
  refine h (HP.bag r) (fun l1 R K1 rest1 hc a w ha hw => hc a w ha { hw with chunks := Chunks.bag_perm h2.symm (Chunks.bag_in hw.chunks) }) a w ha ?_
  have hs := hw.sel hi
  exact { hs with chunks := Chunks.bag_out (Chunks.bag_perm h1 hs.chunks) }
/-- a store into a row of numbers. -/
theorem OW.store_rows {ops : Array Oper} {rest : List Oper} {t : TypeId} {x y : Operand} {Et i m N j q : Nat} {A : Nat → Option Addr} {c : Nat → Nat} {D : Nat → Nat → Int} {b : Int} {H' : List HP} (hsz : ∀ w, (sizeOf t).run P w = .ok 1 w) (ho : o.op = .store t x y)
    (hg : gd ops l o.guard = some true) (hd : o.dst = none) (hx : ev l x = some (eptr (A q) j)) (hy : ev l y = some (.int .i64 b))
    (hi : sel H i = some (HP.rows Et m A (fun _ => N) c (fun k => iis N (D k)), H')) (hq : q < m) (hj : j < N) (k : OW P n w0 F ops K rest l (HP.rows Et m A (fun _ => N) c (fun k => iis N (up D q (up (D q) j b) k)) :: H')) : OW P n w0 F ops K (o :: rest) l H := by
  refine OW.rows_out (A' := A) (len' := fun _ => N) (c' := c) (xs' := fun k => iis N (up D q (up (D q) j b) k)) i hi hq (fun s hs => by rw [up_ne _ _ hs]) fun r hback => ?_
  refine OW.store_ii (i := 0) hsz ho hg hd hx hy rfl hj ?_
  refine hback l H' K rest k |> fun h => ?_
  rw [up_same] at h
  exact h
/-- one more row. -/
theorem rows_snoc {Et m : Nat} {A : Nat → Option Addr} {len c : Nat → Nat} {xs : Nat → List Value} {A' : Option Addr} {l' c' : Nat} {ys : List Value} {w : World} {U : Nat → Prop} {R : List HP}
    (h : Chunks w U (HP.row Et 1 A' l' c' ys :: HP.rows Et m A len c xs :: R)) : Chunks w U (HP.rows Et (m + 1) (up A m A') (up len m l') (up c m c') (up xs m ys) :: R) := by
  refine Chunks.bag_perm ?_ (Chunks.bag_in h)
  rw [List.range_succ, List.map_append, List.map_cons, List.map_nil, up_same, up_same, up_same, up_same]
  have : ((List.range m).map fun k => HP.row Et 1 (up A m A' k) (up len m l' k) (up c m c' k) (up xs m ys k)) = (List.range m).map fun k => HP.row Et 1 (A k) (len k) (c k) (xs k) := by
    apply List.map_congr_left
    intro i hi
    have := List.mem_range.1 hi
    rw [up_ne _ _ (by omega), up_ne _ _ (by omega), up_ne _ _ (by omega), up_ne _ _ (by omega)]
  rw [this]
  exact List.perm_append_comm (l₁ := [HP.row Et 1 A' l' c' ys])
theorem CW.rows_snoc {c0 : Code} {Et m : Nat} {A : Nat → Option Addr} {len c : Nat → Nat} {xs : Nat → List Value} {A' : Option Addr} {l' c' : Nat} {ys : List Value} {H1 R : List HP} (is : List Nat) (hs : E.sels H is = some H1) (hH : H1 = HP.row Et 1 A' l' c' ys :: HP.rows Et m A len c xs :: R)
    (k : CW P n w0 F c0 K l (HP.rows Et (m + 1) (up A m A') (up len m l') (up c m c') (up xs m ys) :: R)) : CW P n w0 F c0 K l H :=
  CW.sels is hs (CW.conv (fun w U h => by subst hH; exact E.rows_snoc h) k)
theorem CW.rows_nil {c0 : Code} {Et : Nat} {A : Nat → Option Addr} {len c : Nat → Nat} {xs : Nat → List Value} (k : CW P n w0 F c0 K l (HP.rows Et 0 A len c xs :: H)) : CW P n w0 F c0 K l H := CW.conv (fun w U h => h.bag_nil) k
end
end E
end Go.Proofs.Ytflkbabhbnmajaa

/- A search from a goal backwards, in all phases at once, plainly: no program in sight. -/
namespace Go.Proofs.Ytflkbabhbnmajaa
namespace Bf
structure G where
  n : Nat
  K : Nat
  cell : Nat → Bool
  al : Nat → Nat → Bool
  nr : Nat → List Nat
  goal : Nat
structure G.ok (x : G) : Prop where
  K0 : 0 < x.K
  nrlt : ∀ p q, p < x.n → q ∈ x.nr p → q < x.n
  sym : ∀ p q, p < x.n → q ∈ x.nr p → p ∈ x.nr q
  glt : x.goal < x.n
  gal : ∀ k, k < x.K → x.al k x.goal = true
  alc : ∀ k p, x.al k p = true → x.cell p = true
/-- a walk of m steps from a place at a phase to the goal. -/
def W (x : G) : Nat → Nat → Nat → Prop
  | 0, _, p => p = x.goal
  | m + 1, k, p => ∃ q, q ∈ x.nr p ∧ x.al ((k + 1) % x.K) q = true ∧ W x m ((k + 1) % x.K) q
def bef (x : G) (k : Nat) : Nat := (k + x.K - 1) % x.K
theorem bef_lt {x : G} (h : x.ok) (k : Nat) : bef x k < x.K := Nat.mod_lt _ h.K0
theorem bef_succ {x : G} (h : x.ok) {k : Nat} (hk : k < x.K) : (bef x k + 1) % x.K = k := by
  have := h.K0
  unfold bef
  rcases Nat.eq_zero_or_pos k with rfl | h0
  · rw [show 0 + x.K - 1 = x.K - 1 by omega, Nat.mod_eq_of_lt (show x.K - 1 < x.K by omega), show x.K - 1 + 1 = x.K by omega, Nat.mod_self]
  · rw [show k + x.K - 1 = (k - 1) + x.K by omega, Nat.add_mod_right, Nat.mod_eq_of_lt (show k - 1 < x.K by omega), show k - 1 + 1 = k by omega, Nat.mod_eq_of_lt hk]
theorem succ_bef {x : G} (h : x.ok) {k : Nat} (hk : k < x.K) : bef x ((k + 1) % x.K) = k := by
  have := h.K0
  unfold bef
  rcases Nat.lt_or_ge (k + 1) x.K with h1 | h1
  · rw [Nat.mod_eq_of_lt h1, show k + 1 + x.K - 1 = k + x.K by omega, Nat.add_mod_right, Nat.mod_eq_of_lt hk]
  · have : k + 1 = x.K := by omega
    rw [this, Nat.mod_self, show 0 + x.K - 1 = k by omega, Nat.mod_eq_of_lt hk]
abbrev DD := Nat → Nat → Int
def upd (D : DD) (k p : Nat) (v : Int) : DD := fun k' p' => if k' = k ∧ p' = p then v else D k' p'
def seeD (D : DD) (p k : Nat) (m : Int) : DD := if D k p < 0 then upd D k p m else D
def seeQ (x : G) (D : DD) (q : List (Nat × Nat)) (p k : Nat) : List (Nat × Nat) := if D k p < 0 ∧ x.al k p = true then q ++ [(p, k)] else q
def at_ (q : List (Nat × Nat)) (i : Nat) : Nat × Nat := q.getD i (0, 0)
theorem at_mem {q : List (Nat × Nat)} {i : Nat} (h : i < q.length) : at_ q i ∈ q := by simp [at_, List.getD, h]
theorem at_app {q r : List (Nat × Nat)} {i : Nat} (h : i < q.length) : at_ (q ++ r) i = at_ q i := by simp [at_, List.getD, List.getElem?_append_left h]
theorem at_new {q : List (Nat × Nat)} {s : Nat × Nat} : at_ (q ++ [s]) q.length = s := by simp [at_, List.getD]
/-- the search, when the first h states of the queue have been looked at. -/
structure Base (x : G) (D : DD) (q : List (Nat × Nat)) (h : Nat) : Prop where
  mem : ∀ s, s ∈ q → s.1 < x.n ∧ s.2 < x.K ∧ x.al s.2 s.1 = true ∧ 0 ≤ D s.2 s.1
  nd : q.Nodup
  asg : ∀ k p, k < x.K → p < x.n → D k p = -1 ∨ (0 ≤ D k p ∧ W x (D k p).toNat k p)
  inq : ∀ k p, k < x.K → p < x.n → 0 ≤ D k p → x.al k p = true → (p, k) ∈ q
  so : ∀ i j, i ≤ j → j < q.length → D (at_ q i).2 (at_ q i).1 ≤ D (at_ q j).2 (at_ q j).1
  le : h < q.length → ∀ k p, k < x.K → p < x.n → D k p ≤ D (at_ q h).2 (at_ q h).1 + 1
  ix : ∀ j, j < q.length → D (at_ q j).2 (at_ q j).1 ≤ j
  bd : ∀ k p, k < x.K → p < x.n → D k p ≤ q.length
  pr : ∀ i, i < h → i < q.length → ∀ p, p ∈ x.nr (at_ q i).1 → x.cell p = true → 0 ≤ D (bef x (at_ q i).2) p ∧ D (bef x (at_ q i).2) p ≤ D (at_ q i).2 (at_ q i).1 + 1
theorem len_le {x : G} {D : DD} {q : List (Nat × Nat)} {h : Nat} (b : Base x D q h) : q.length ≤ x.n * x.K := by
  have h1 : q ⊆ (List.range x.n).flatMap fun p => (List.range x.K).map fun k => (p, k) := by
    intro s hs
    obtain ⟨h1, h2, _⟩ := b.mem s hs
    simp only [List.mem_flatMap, List.mem_range, List.mem_map]
    exact ⟨s.1, h1, s.2, h2, rfl⟩
  have h2 := b.nd.length_le_of_subset h1
  have h3 : ((List.range x.n).flatMap fun p => (List.range x.K).map fun k => (p, k)).length = x.n * x.K := by
    simp [List.length_flatMap, List.map_const']
  omega
/-- one look: from the state at h to a neighbour, or at the goal in the beginning (h = 0, D.. = 0). -/
theorem Base.see {x : G} (ok : x.ok) {D : DD} {q : List (Nat × Nat)} {h p k : Nat} {m : Int} (b : Base x D q h) (hk : k < x.K) (hp : p < x.n) (hm : 0 ≤ m) (hw : W x m.toNat k p)
    (hq : ∀ k p, k < x.K → p < x.n → D k p ≤ m) (hi : m ≤ q.length) (hl : h < q.length → m ≤ D (at_ q h).2 (at_ q h).1 + 1) (hh : h ≤ q.length) :
    Base x (seeD D p k m) (seeQ x D q p k) h := by
  unfold seeD seeQ
  by_cases hd : D k p < 0
  · rw [if_pos hd]
    have hold : ∀ k' p', k' < x.K → p' < x.n → 0 ≤ D k' p' → upd D k p m k' p' = D k' p' := by
      intro k' p' _ _ h1
      unfold upd
      rw [if_neg]
      rintro ⟨rfl, rfl⟩
      omega
    have hmem : ∀ s, s ∈ q → upd D k p m s.2 s.1 = D s.2 s.1 := fun s hs => hold _ _ (b.mem s hs).2.1 (b.mem s hs).1 (b.mem s hs).2.2.2
    have hnew : upd D k p m k p = m := by simp [upd]
    have hdm : ∀ k' p', k' < x.K → p' < x.n → upd D k p m k' p' ≤ m := by
      intro k' p' h1 h2
      unfold upd
      split
      · exact Int.le_refl _
      · exact hq k' p' h1 h2
    have has : ∀ k' p', k' < x.K → p' < x.n → upd D k p m k' p' = -1 ∨ (0 ≤ upd D k p m k' p' ∧ W x (upd D k p m k' p').toNat k' p') := by
      intro k' p' h1 h2
      unfold upd
      split
      · rename_i e; obtain ⟨rfl, rfl⟩ := e; exact .inr ⟨hm, hw⟩
      · exact b.asg k' p' h1 h2
    have hnin : (p, k) ∉ q := fun hin => by have := (b.mem _ hin).2.2.2; simp only at this; omega
    have hpr : ∀ i, i < h → i < q.length → ∀ p', p' ∈ x.nr (at_ q i).1 → x.cell p' = true → 0 ≤ upd D k p m (bef x (at_ q i).2) p' ∧ upd D k p m (bef x (at_ q i).2) p' ≤ upd D k p m (at_ q i).2 (at_ q i).1 + 1 := by
      intro i h1 h2 p' h3 h4
      have h5 := b.pr i h1 h2 p' h3 h4
      have h6 := b.mem _ (at_mem h2)
      rw [hold _ _ (bef_lt ok _) (ok.nrlt _ _ h6.1 h3) h5.1, hmem _ (at_mem h2)]
      exact h5
    by_cases ha : x.al k p = true
    · rw [if_pos ⟨hd, ha⟩]
      have hat : ∀ i, i < (q ++ [(p, k)]).length → (i < q.length ∧ at_ (q ++ [(p, k)]) i = at_ q i) ∨ (i = q.length ∧ at_ (q ++ [(p, k)]) i = (p, k)) := by
        intro i h1
        rw [List.length_append, List.length_singleton] at h1
        rcases Nat.lt_or_ge i q.length with h2 | h2
        · exact .inl ⟨h2, at_app h2⟩
        · have : i = q.length := by omega
          subst this
          exact .inr ⟨rfl, at_new⟩
      refine ⟨?_, ?_, has, ?_, ?_, ?_, ?_, ?_, ?_⟩
      · intro s hs
        rcases List.mem_append.1 hs with h1 | h1
        · rw [hmem s h1]; exact b.mem s h1
        · rw [List.mem_singleton.1 h1]; exact ⟨hp, hk, ha, by simp only; rw [hnew]; exact hm⟩
      · exact List.nodup_append.2 ⟨b.nd, by simp, fun s h1 t h2 e => by rw [List.mem_singleton.1 h2] at e; exact hnin (e ▸ h1)⟩
      · intro k' p' h1 h2 h3 h4
        by_cases e : k' = k ∧ p' = p
        · obtain ⟨rfl, rfl⟩ := e; simp
        · have : upd D k p m k' p' = D k' p' := by unfold upd; rw [if_neg e]
          rw [this] at h3
          exact List.mem_append.2 (.inl (b.inq k' p' h1 h2 h3 h4))
      · intro i j hij hj
        rcases hat j hj with ⟨h1, h2⟩ | ⟨h1, h2⟩
        · rw [h2, (at_app (Nat.lt_of_le_of_lt hij h1) : at_ (q ++ [(p, k)]) i = _), hmem _ (at_mem h1), hmem _ (at_mem (Nat.lt_of_le_of_lt hij h1))]
          exact b.so i j hij h1
        · rw [h2]; simp only; rw [hnew]
          rcases hat i (by omega) with ⟨h3, h4⟩ | ⟨h3, h4⟩
          · rw [h4]; have := b.mem _ (at_mem h3); exact hdm _ _ this.2.1 this.1
          · rw [h4]; simp only; rw [hnew]; exact Int.le_refl _
      · intro _ k' p' h1 h2
        have := hdm k' p' h1 h2
        rcases hat h (by simp; omega) with ⟨h3, h4⟩ | ⟨h3, h4⟩
        · rw [h4, hmem _ (at_mem h3)]; have := hl h3; omega
        · rw [h4]; simp only; rw [hnew]; omega
      · intro j hj
        rcases hat j hj with ⟨h1, h2⟩ | ⟨h1, h2⟩
        · rw [h2, hmem _ (at_mem h1)]; exact b.ix j h1
        · rw [h2]; simp only; rw [hnew, h1]; exact hi
      · intro k' p' h1 h2
        have := hdm k' p' h1 h2
        simp only [List.length_append, List.length_singleton]; omega
      · intro i h1 h2 p' h3 h4
        rcases hat i h2 with ⟨h5, h6⟩ | ⟨h5, h6⟩
        · rw [h6] at h3 ⊢; exact hpr i h1 h5 p' h3 h4
        · omega
    · rw [if_neg (fun e => ha e.2)]
      refine ⟨?_, b.nd, has, ?_, ?_, ?_, ?_, ?_, hpr⟩
      · intro s hs; rw [hmem s hs]; exact b.mem s hs
      · intro k' p' h1 h2 h3 h4
        by_cases e : k' = k ∧ p' = p
        · obtain ⟨rfl, rfl⟩ := e; exact absurd h4 ha
        · have : upd D k p m k' p' = D k' p' := by unfold upd; rw [if_neg e]
          rw [this] at h3
          exact b.inq k' p' h1 h2 h3 h4
      · intro i j hij hj
        rw [hmem _ (at_mem hj), hmem _ (at_mem (Nat.lt_of_le_of_lt hij hj))]
        exact b.so i j hij hj
      · intro h1 k' p' h2 h3
        have := hdm k' p' h2 h3
        rw [hmem _ (at_mem h1)]; have := hl h1; omega
      · intro j hj; rw [hmem _ (at_mem hj)]; exact b.ix j hj
      · intro k' p' h1 h2
        have := hdm k' p' h1 h2
        omega
  · rw [if_neg hd, if_neg (fun e => hd e.1)]
    exact b
theorem see_no {x : G} {D : DD} {q : List (Nat × Nat)} {p k : Nat} {m : Int} (h : ¬ D k p < 0) : seeQ x D q p k = q ∧ seeD D p k m = D := ⟨if_neg fun e => h e.1, if_neg h⟩
theorem see_off {x : G} {D : DD} {q : List (Nat × Nat)} {p k : Nat} {m : Int} (h : D k p < 0) (ha : x.al k p = false) : seeQ x D q p k = q ∧ seeD D p k m = upd D k p m := ⟨if_neg fun e => by rw [ha] at e; exact absurd e.2 (by decide), if_pos h⟩
theorem see_on {x : G} {D : DD} {q : List (Nat × Nat)} {p k : Nat} {m : Int} (h : D k p < 0) (ha : x.al k p = true) : seeQ x D q p k = q ++ [(p, k)] ∧ seeD D p k m = upd D k p m := ⟨if_pos ⟨h, ha⟩, if_pos h⟩
theorem bef_int {x : G} (h : x.ok) (k : Nat) : ((k : Int) + (x.K : Int) - 1) % (x.K : Int) = ((bef x k : Nat) : Int) := by
  have := h.K0
  unfold bef
  rw [Int.natCast_emod]
  congr 1
  omega
theorem seeD_keep {D : DD} {p k k' p' : Nat} {m : Int} (h : 0 ≤ D k' p') : seeD D p k m k' p' = D k' p' := by
  unfold seeD
  split
  · unfold upd
    rw [if_neg]
    rintro ⟨rfl, rfl⟩
    omega
  · rfl
theorem seeD_new {D : DD} {p k : Nat} {m : Int} (hm : 0 ≤ m) : 0 ≤ seeD D p k m k p ∧ (seeD D p k m k p = m ∨ seeD D p k m k p = D k p) := by
  unfold seeD
  split
  · have : upd D k p m k p = m := by simp [upd]
    rw [this]; exact ⟨hm, .inl rfl⟩
  · exact ⟨by omega, .inr rfl⟩
theorem seeQ_le {x : G} {D : DD} {q : List (Nat × Nat)} {p k : Nat} : q.length ≤ (seeQ x D q p k).length := by
  unfold seeQ; split
  · rw [List.length_append]; omega
  · exact Nat.le_refl _
theorem seeQ_at {x : G} {D : DD} {q : List (Nat × Nat)} {p k i : Nat} (h : i < q.length) : at_ (seeQ x D q p k) i = at_ q i := by
  unfold seeQ; split
  · exact at_app h
  · rfl
/-- the state at h is looked at, up to its j-th neighbour. -/
structure Part (x : G) (D : DD) (q : List (Nat × Nat)) (h j : Nat) : Prop where
  b : Base x D q h
  hl : h < q.length
  g : ∀ k, k < x.K → D k x.goal = 0
  nb : ∀ i, i < j → i < (x.nr (at_ q h).1).length → x.cell ((x.nr (at_ q h).1).getD i 0) = true →
    0 ≤ D (bef x (at_ q h).2) ((x.nr (at_ q h).1).getD i 0) ∧ D (bef x (at_ q h).2) ((x.nr (at_ q h).1).getD i 0) ≤ D (at_ q h).2 (at_ q h).1 + 1
theorem Part.skip {x : G} {D : DD} {q : List (Nat × Nat)} {h j : Nat} (a : Part x D q h j) (hc : x.cell ((x.nr (at_ q h).1).getD j 0) = false) : Part x D q h (j + 1) :=
  ⟨a.b, a.hl, a.g, fun i h1 h2 h3 => by
    rcases Nat.lt_or_ge i j with h4 | h4
    · exact a.nb i h4 h2 h3
    · have : i = j := by omega
      subst this
      rw [hc] at h3; exact absurd h3 (by decide)⟩
theorem Part.see {x : G} (ok : x.ok) {D : DD} {q : List (Nat × Nat)} {h j : Nat} (a : Part x D q h j) (hj : j < (x.nr (at_ q h).1).length) (hc : x.cell ((x.nr (at_ q h).1).getD j 0) = true) :
    Part x (seeD D ((x.nr (at_ q h).1).getD j 0) (bef x (at_ q h).2) (D (at_ q h).2 (at_ q h).1 + 1)) (seeQ x D q ((x.nr (at_ q h).1).getD j 0) (bef x (at_ q h).2)) h (j + 1) := by
  obtain ⟨m1, m2, m3, m4⟩ := a.b.mem _ (at_mem a.hl)
  have hp : (x.nr (at_ q h).1).getD j 0 ∈ x.nr (at_ q h).1 := by simp [List.getD, hj]
  have hn := ok.nrlt _ _ m1 hp
  have hb := bef_lt ok (at_ q h).2
  have hle := a.b.le a.hl
  have hix := a.b.ix h a.hl
  have hw : W x (D (at_ q h).2 (at_ q h).1 + 1).toNat (bef x (at_ q h).2) ((x.nr (at_ q h).1).getD j 0) := by
    rw [show (D (at_ q h).2 (at_ q h).1 + 1).toNat = (D (at_ q h).2 (at_ q h).1).toNat + 1 by omega]
    refine ⟨(at_ q h).1, ok.sym _ _ m1 hp, ?_, ?_⟩
    · rw [bef_succ ok m2]; exact m3
    · rw [bef_succ ok m2]
      rcases a.b.asg _ _ m2 m1 with h1 | ⟨_, h1⟩
      · omega
      · exact h1
  have hbase := a.b.see ok (p := (x.nr (at_ q h).1).getD j 0) (k := bef x (at_ q h).2) (m := D (at_ q h).2 (at_ q h).1 + 1) hb hn (by omega) hw hle (by have := a.hl; omega) (fun _ => Int.le_refl _) (by have := a.hl; omega)
  refine ⟨hbase, Nat.lt_of_lt_of_le a.hl seeQ_le, fun k hk => ?_, fun i h1 h2 h3 => ?_⟩
  · rw [seeD_keep (by rw [a.g k hk]; omega)]; exact a.g k hk
  · rw [seeQ_at a.hl] at h2 h3 ⊢
    rw [seeD_keep m4]
    rcases Nat.lt_or_ge i j with h4 | h4
    · have h5 := a.nb i h4 h2 h3
      rw [seeD_keep h5.1]; exact h5
    · have : i = j := by omega
      subst this
      have h5 := seeD_new (D := D) (p := (x.nr (at_ q h).1).getD i 0) (k := bef x (at_ q h).2) (m := D (at_ q h).2 (at_ q h).1 + 1) (by omega)
      refine ⟨h5.1, ?_⟩
      rcases h5.2 with h6 | h6
      · omega
      · rw [h6]; exact hle _ _ hb hn
/-- a state has been looked at. -/
theorem Base.next {x : G} {D : DD} {q : List (Nat × Nat)} {h : Nat} (b : Base x D q h) (hh : h < q.length)
    (hp : ∀ p, p ∈ x.nr (at_ q h).1 → x.cell p = true → 0 ≤ D (bef x (at_ q h).2) p ∧ D (bef x (at_ q h).2) p ≤ D (at_ q h).2 (at_ q h).1 + 1) : Base x D q (h + 1) := by
  refine { b with le := fun h1 k p h2 h3 => ?_, pr := fun i h1 h2 p h3 h4 => ?_ }
  · have h4 := b.le hh k p h2 h3
    have h5 := b.so h (h + 1) (by omega) h1
    omega
  · rcases Nat.lt_or_ge i h with h5 | h5
    · exact b.pr i h5 h2 p h3 h4
    · have : i = h := by omega
      subst this
      exact hp p h3 h4
theorem Part.done {x : G} {D : DD} {q : List (Nat × Nat)} {h j : Nat} (a : Part x D q h j) (hj : (x.nr (at_ q h).1).length ≤ j) : Base x D q (h + 1) :=
  a.b.next a.hl fun p h1 h2 => by
    obtain ⟨i, hi, rfl⟩ := List.getElem_of_mem h1
    have h3 := a.nb i (by omega) hi (by simpa [List.getD, hi] using h2)
    simpa [List.getD, hi] using h3
/-- the beginning: the goal, in the first j phases. -/
structure Start (x : G) (D : DD) (q : List (Nat × Nat)) (j : Nat) : Prop where
  b : Base x D q 0
  g : ∀ k, k < j → D k x.goal = 0
  o : ∀ k p, D k p = -1 ∨ D k p = 0
  u : ∀ k p, j ≤ k → D k p = -1
theorem Start.zero (x : G) {D : DD} (h : ∀ k p, D k p = -1) : Start x D [] 0 :=
  ⟨⟨(fun s hs => absurd hs (by simp)), List.nodup_nil, fun k p _ _ => .inl (h k p), fun k p _ _ h1 _ => by rw [h k p] at h1; omega, fun i j _ hj => by simp at hj, fun h => by simp at h, fun j hj => by simp at hj, fun k p _ _ => by rw [h k p]; simp, fun i h => by omega⟩,
    fun k h => by omega, fun k p => .inl (h k p), fun k p _ => h k p⟩
theorem Start.see {x : G} (ok : x.ok) {D : DD} {q : List (Nat × Nat)} {j : Nat} (a : Start x D q j) (hj : j < x.K) : Start x (seeD D x.goal j 0) (seeQ x D q x.goal j) (j + 1) := by
  have hd := a.u j x.goal (Nat.le_refl _)
  have hnn : ∀ k p, D k p ≤ 0 := fun k p => by rcases a.o k p with h | h <;> omega
  have hu : seeD D x.goal j 0 = upd D j x.goal 0 := if_pos (by omega)
  refine ⟨a.b.see ok hj ok.glt (Int.le_refl _) rfl (fun k p _ _ => hnn k p) (by omega) (fun h => ?_) (by omega), fun k hk => ?_, fun k p => ?_, fun k p hk => ?_⟩
  · have := (a.b.mem _ (at_mem h)).2.2.2
    omega
  · rw [hu]
    rcases Nat.lt_or_ge k j with h1 | h1
    · unfold upd; rw [if_neg (by omega)]; exact a.g k h1
    · have : k = j := by omega
      subst this
      simp [upd]
  · rw [hu]; unfold upd
    split
    · exact .inr rfl
    · exact a.o k p
  · rw [hu]; unfold upd
    rw [if_neg (by omega)]
    exact a.u k p (by omega)
theorem Base.part {x : G} {D : DD} {q : List (Nat × Nat)} {h : Nat} (b : Base x D q h) (hl : h < q.length) (hg : ∀ k, k < x.K → D k x.goal = 0) : Part x D q h 0 := ⟨b, hl, hg, fun i hi => by omega⟩
/-- at the end: what is assigned is the length of a shortest walk. -/
theorem Base.min {x : G} (ok : x.ok) {D : DD} {q : List (Nat × Nat)} (b : Base x D q q.length) (hg : ∀ k, k < x.K → D k x.goal = 0) :
    ∀ m k p, k < x.K → p < x.n → x.cell p = true → W x m k p → 0 ≤ D k p ∧ D k p ≤ m := by
  intro m
  induction m with
  | zero =>
    intro k p hk hp hc hw
    have : p = x.goal := hw
    subst this
    rw [hg k hk]; omega
  | succ m ih =>
    intro k p hk hp hc ⟨q', h1, h2, h3⟩
    have hq' := ok.nrlt p q' hp h1
    have hk' : (k + 1) % x.K < x.K := Nat.mod_lt _ ok.K0
    obtain ⟨h4, h5⟩ := ih _ q' hk' hq' (ok.alc _ _ h2) h3
    have h6 := b.inq _ _ hk' hq' h4 h2
    obtain ⟨i, hi, he⟩ := List.getElem_of_mem h6
    have hat : at_ q i = (q', (k + 1) % x.K) := by simp [at_, List.getD, hi, he]
    have h7 := b.pr i hi hi p (by rw [hat]; exact ok.sym p q' hp h1) hc
    rw [hat] at h7
    simp only [succ_bef ok hk] at h7
    omega
/-- the length of a shortest walk, -1 if there is none of up to this length. -/
def Ar (x : G) (k p : Nat) (v : Int) : Prop := (v = -1 ∧ ∀ m, ¬ W x m k p) ∨ (0 ≤ v ∧ v ≤ x.n * x.K ∧ W x v.toNat k p ∧ ∀ m, W x m k p → v ≤ m)
theorem Base.ar {x : G} (ok : x.ok) {D : DD} {q : List (Nat × Nat)} (b : Base x D q q.length) (hg : ∀ k, k < x.K → D k x.goal = 0) {k p : Nat} (hk : k < x.K) (hp : p < x.n) (hc : x.cell p = true) : Ar x k p (D k p) := by
  rcases b.asg k p hk hp with h | ⟨h1, h2⟩
  · refine .inl ⟨h, fun m hw => ?_⟩
    have := b.min ok hg m k p hk hp hc hw
    omega
  · refine .inr ⟨h1, ?_, h2, fun m hw => (b.min ok hg m k p hk hp hc hw).2⟩
    have h3 := b.bd k p hk hp
    have h4 := len_le b
    have h5 : (x.n : Int) * x.K = ((x.n * x.K : Nat) : Int) := by simp
    rw [h5]
    omega
theorem Ar.uniq {x : G} {k p : Nat} {v u : Int} (h : Ar x k p v) (h' : Ar x k p u) : v = u := by
  rcases h with ⟨rfl, h⟩ | ⟨h1, _, h2, h3⟩ <;> rcases h' with ⟨rfl, h'⟩ | ⟨h1', _, h2', h3'⟩
  · rfl
  · exact absurd h2' (h _)
  · exact absurd h2 (h' _)
  · have a := h3 _ h2'
    have b := h3' _ h2
    omega
end Bf
end Go.Proofs.Ytflkbabhbnmajaa

/- The plan of a leg in memory, and the queue of its search. -/
set_option linter.unusedSimpArgs false
set_option linter.unusedVariables false
namespace Go.Proofs.Ytflkbabhbnmajaa
namespace E
open Go Go.RowKit
/-! ### What a chunk's own blocks read as -/
theorem Rd.mono {w : World} {S G : Nat → Prop} {A : Option Addr} {xs : List Value} (h : Rd w S A xs) (hg : ∀ k, S k → G k) : Rd w G A xs := fun hx => by
  obtain ⟨ad, h1, h2, h3⟩ := h hx; exact ⟨ad, h1, hg _ h2, h3⟩
theorem row_rdS {w : World} {S : Nat → Prop} {Et sz m c : Nat} {A : Option Addr} {xs : List Value} (h : (HP.row Et sz A m c xs).sem S w) : Rd w S A xs := by
  intro hx
  obtain ⟨hS, h⟩ := h
  rcases h.2 with ⟨hv, hm⟩ | ⟨g, cap, cur, hv, _, hg, _, _, hsz, ht⟩
  · have h1 := h.1
    subst hm
    simp only [Nat.zero_mul] at h1
    omega
  · injection hv with h1 h2 h3
    subst h1
    refine ⟨_, rfl, (hS g).2 rfl, fun j u hu => ?_⟩
    have hadd : (⟨g, 0, none⟩ : Addr).add j = ⟨g, j, none⟩ := by unfold Addr.add; split <;> simp_all
    rw [hadd, cell_of_row w g j cur Et (0, 0) hg]
    rw [← ht, List.getElem?_take] at hu
    split at hu
    · simpa using hu
    · cases hu
theorem blk_rdS {w : World} {S : Nat → Prop} {B T : Nat} {cs : List Value} (h : (HP.blk B T cs).sem S w) : Rd w S (some ⟨B, 0, none⟩) cs := fun hx => by
  refine ⟨_, rfl, (h.1 B).2 rfl, fun j u hu => ?_⟩
  have hadd : (⟨B, 0, none⟩ : Addr).add j = ⟨B, j, none⟩ := by unfold Addr.add; split <;> simp_all
  rw [hadd, cell_of_row w B j _ T (0, 0) h.2]
  simpa using hu
theorem bag_memS {w : World} {ps : List HP} {p : HP} (hp : p ∈ ps) : ∀ {S : Nat → Prop}, bagS w S ps → ∃ S' : Nat → Prop, (∀ k, S' k → S k) ∧ p.sem S' w := by
  induction ps with
  | nil => cases hp
  | cons q r ih =>
    intro S ⟨S1, S2, h1, _, h3, h4⟩
    rcases List.mem_cons.1 hp with rfl | h
    · exact ⟨S1, fun k hk => (h1 k).2 (.inl hk), h3⟩
    · obtain ⟨S', h5, h6⟩ := ih h h4
      exact ⟨S', fun k hk => (h1 k).2 (.inr (h5 k hk)), h6⟩
theorem bag_row {w : World} {ps : List HP} {S : Nat → Prop} {Et sz m c : Nat} {A : Option Addr} {xs : List Value} (h : (HP.bag ps).sem S w) (hp : HP.row Et sz A m c xs ∈ ps) : Rd w S A xs := by
  obtain ⟨S', h1, h2⟩ := bag_memS hp h; exact (row_rdS h2).mono h1
theorem bag_blk {w : World} {ps : List HP} {S : Nat → Prop} {B T : Nat} {cs : List Value} (h : (HP.bag ps).sem S w) (hp : HP.blk B T cs ∈ ps) : Rd w S (some ⟨B, 0, none⟩) cs := by
  obtain ⟨S', h1, h2⟩ := bag_memS hp h; exact (blk_rdS h2).mono h1
theorem rows_rdS {w : World} {S : Nat → Prop} {Et m : Nat} {A : Nat → Option Addr} {len c : Nat → Nat} {xs : Nat → List Value} (h : (HP.rows Et m A len c xs).sem S w) {k : Nat} (hk : k < m) : Rd w S (A k) (xs k) :=
  bag_row (Et := Et) (sz := 1) (m := len k) (c := c k) h (List.mem_map.2 ⟨k, List.mem_range.2 hk, rfl⟩)
theorem bag_rows {w : World} {ps : List HP} {S : Nat → Prop} {Et m : Nat} {A : Nat → Option Addr} {len c : Nat → Nat} {xs : Nat → List Value} (h : (HP.bag ps).sem S w) (hp : HP.rows Et m A len c xs ∈ ps) {k : Nat} (hk : k < m) : Rd w S (A k) (xs k) := by
  obtain ⟨S', h1, h2⟩ := bag_memS hp h; exact (rows_rdS h2 hk).mono h1
theorem Chunks.at_ {w : World} {i : Nat} {H H' : List HP} {p : HP} {U : Nat → Prop} (hc : Chunks w U H) (hi : sel H i = some (p, H')) : ∃ S : Nat → Prop, p.sem S w ∧ ∀ k, S k → k < w.heap.size ∧ ¬ U k := by
  obtain ⟨S, h1, h2, _⟩ := hc.perm (sel_perm hi)
  exact ⟨S, h1, h2⟩
theorem HA.at_ {w0 w : World} {F : Nat → Prop} {i : Nat} {H H' : List HP} {p : HP} (h : HA w0 F H w) (hi : E.sel H i = some (p, H')) : ∃ S : Nat → Prop, p.sem S w ∧ ∀ k, S k → k < w.heap.size ∧ ¬ F k := h.chunks.at_ hi

/-! ### The plan -/
structure Pl where
  B : Nat
  x : Bf.G
  Ac : Option Addr
  cc : Nat
  Aa : Option Addr
  ca : Nat
  Xa : Nat → Option Addr
  ua : Nat → Nat
  Ad : Option Addr
  cd : Nat
  Xd : Nat → Option Addr
  ud : Nat → Nat
  An : Option Addr
  cn : Nat
  Xn : Nat → Option Addr
  un : Nat → Nat
def nn (x : Bf.G) (p : Nat) : List Int := (x.nr p).map fun (q : Nat) => (q : Int)
@[simp] theorem nn_length (x : Bf.G) (p : Nat) : (nn x p).length = (x.nr p).length := by simp [nn]
theorem nn_get (x : Bf.G) (p : Nat) (j : Nat) : (nn x p).getD j 0 = (((x.nr p).getD j 0 : Nat) : Int) := by
  unfold nn
  rw [List.getD_eq_getElem?_getD, List.getD_eq_getElem?_getD, List.getElem?_map]
  cases (x.nr p)[j]? <;> rfl
def Pl.cells (y : Pl) : List Value := [.int .i64 (y.x.K : Int), .slice y.Ac y.x.n y.cc, .slice y.Aa y.x.K y.ca, .slice y.Ad y.x.K y.cd, .slice y.An y.x.n y.cn]
def Pl.v (y : Pl) : Value := .pointer (some ⟨y.B, 0, none⟩)
structure Pl.rd0 (w : World) (G : Nat → Prop) (y : Pl) : Prop where
  b : Rd w G (some ⟨y.B, 0, none⟩) y.cells
  c : Rd w G y.Ac (bls y.x.n y.x.cell)
  a : Rd w G y.Aa (slc2 y.x.K y.Xa (fun _ => y.x.n) y.ua)
  ar : ∀ k, k < y.x.K → Rd w G (y.Xa k) (bls y.x.n (y.x.al k))
  d : Rd w G y.Ad (slc2 y.x.K y.Xd (fun _ => y.x.n) y.ud)
  n : Rd w G y.An (slc2 y.x.n y.Xn (fun p => (y.x.nr p).length) y.un)
  nr : ∀ p, p < y.x.n → Rd w G (y.Xn p) (ints (nn y.x p))
def Pl.rdd (w : World) (G : Nat → Prop) (y : Pl) (D : Nat → Nat → Int) : Prop := ∀ k, k < y.x.K → Rd w G (y.Xd k) (iis y.x.n (D k))
def HP.dist (y : Pl) (D : Nat → Nat → Int) : HP := HP.rows 3 y.x.K y.Xd (fun _ => y.x.n) y.ud (fun k => iis y.x.n (D k))
def HP.pl0 (y : Pl) : HP := HP.bag [HP.blk y.B 93 y.cells, HP.row 4 1 y.Ac y.x.n y.cc (bls y.x.n y.x.cell), HP.row 89 1 y.Aa y.x.K y.ca (slc2 y.x.K y.Xa (fun _ => y.x.n) y.ua), HP.rows 4 y.x.K y.Xa (fun _ => y.x.n) y.ua (fun k => bls y.x.n (y.x.al k)),
  HP.row 31 1 y.Ad y.x.K y.cd (slc2 y.x.K y.Xd (fun _ => y.x.n) y.ud), HP.row 31 1 y.An y.x.n y.cn (slc2 y.x.n y.Xn (fun p => (y.x.nr p).length) y.un), HP.rows 3 y.x.n y.Xn (fun p => (y.x.nr p).length) y.un (fun p => ints (nn y.x p))]
def HP.plan (y : Pl) (D : Nat → Nat → Int) : HP := HP.bag [HP.pl0 y, HP.dist y D]
theorem Pl.rd0.mono {w : World} {S G : Nat → Prop} {y : Pl} (h : y.rd0 w S) (hg : ∀ k, S k → G k) : y.rd0 w G :=
  ⟨h.b.mono hg, h.c.mono hg, h.a.mono hg, fun k hk => (h.ar k hk).mono hg, h.d.mono hg, h.n.mono hg, fun k hk => (h.nr k hk).mono hg⟩
theorem Pl.rdd.mono {w : World} {S G : Nat → Prop} {y : Pl} {D : Nat → Nat → Int} (h : y.rdd w S D) (hg : ∀ k, S k → G k) : y.rdd w G D := fun k hk => (h k hk).mono hg
theorem pl0_rdS {w : World} {S : Nat → Prop} {y : Pl} (h : (HP.pl0 y).sem S w) : y.rd0 w S where
  b := bag_blk (T := 93) h (by simp)
  c := bag_row (Et := 4) (sz := 1) (m := y.x.n) (c := y.cc) h (by simp)
  a := bag_row (Et := 89) (sz := 1) (m := y.x.K) (c := y.ca) h (by simp)
  ar := fun k hk => bag_rows (Et := 4) (len := fun _ => y.x.n) (c := y.ua) (xs := fun k => bls y.x.n (y.x.al k)) h (by simp) hk
  d := bag_row (Et := 31) (sz := 1) (m := y.x.K) (c := y.cd) h (by simp)
  n := bag_row (Et := 31) (sz := 1) (m := y.x.n) (c := y.cn) h (by simp)
  nr := fun p hp => bag_rows (Et := 3) (len := fun p => (y.x.nr p).length) (c := y.un) (xs := fun p => ints (nn y.x p)) h (by simp) hp
theorem dist_rdS {w : World} {S : Nat → Prop} {y : Pl} {D : Nat → Nat → Int} (h : (HP.dist y D).sem S w) : y.rdd w S D := fun k hk => rows_rdS (xs := fun k => iis y.x.n (D k)) h hk
theorem plan_rdS {w : World} {S : Nat → Prop} {y : Pl} {D : Nat → Nat → Int} (h : (HP.plan y D).sem S w) : y.rd0 w S ∧ y.rdd w S D := by
  obtain ⟨S1, h1, h2⟩ := bag_memS (p := HP.pl0 y) (by simp) h
  obtain ⟨S2, h3, h4⟩ := bag_memS (p := HP.dist y D) (by simp) h
  exact ⟨(pl0_rdS h2).mono h1, (dist_rdS h4).mono h3⟩

section
variable {P : Program} {n : Fr} {w0 : World} {F : Nat → Prop} {K : Kt} {l : Env} {H : List HP} {o : Oper}
theorem HA.rd0 {w : World} (h : HA w0 F H w) {y : Pl} (hr : y.rd0 w0 F) : y.rd0 w (Old w) :=
  ⟨h.rd hr.b, h.rd hr.c, h.rd hr.a, fun k hk => h.rd (hr.ar k hk), h.rd hr.d, h.rd hr.n, fun k hk => h.rd (hr.nr k hk)⟩
theorem HA.rd0M {w : World} (h : HA w0 F H w) {y : Pl} (hr : y.rd0 w0 F) {S : Nat → Prop} (hb : ∀ k, S k → k < w.heap.size ∧ ¬ F k) : y.rd0 w (Fm w S) :=
  ⟨h.rdM hr.b hb, h.rdM hr.c hb, h.rdM hr.a hb, fun k hk => h.rdM (hr.ar k hk) hb, h.rdM hr.d hb, h.rdM hr.n hb, fun k hk => h.rdM (hr.nr k hk) hb⟩
theorem HA.rdd {w : World} (h : HA w0 F H w) {y : Pl} {D : Nat → Nat → Int} (hr : y.rdd w0 F D) : y.rdd w (Old w) D := fun k hk => h.rd (hr k hk)
/-! sources: from what the caller gave, from a chunk. -/
theorem sr0 {y : Pl} (hr : y.rd0 w0 F) : ∀ w, HA w0 F H w → y.rd0 w (Old w) := fun w hw => hw.rd0 hr
theorem srd {y : Pl} {D : Nat → Nat → Int} (hr : y.rdd w0 F D) : ∀ w, HA w0 F H w → y.rdd w (Old w) D := fun w hw => hw.rdd hr
theorem srdc {y : Pl} {D : Nat → Nat → Int} {i : Nat} {H' : List HP} (hi : sel H i = some (HP.dist y D, H')) : ∀ w, HA w0 F H w → y.rdd w (Old w) D := fun w hw => by
  obtain ⟨S, h1, h2⟩ := hw.at_ hi; exact (dist_rdS h1).mono fun k hk => (h2 k hk).1
theorem sr0p {y : Pl} {D : Nat → Nat → Int} {i : Nat} {H' : List HP} (hi : sel H i = some (HP.plan y D, H')) : ∀ w, HA w0 F H w → y.rd0 w (Old w) := fun w hw => by
  obtain ⟨S, h1, h2⟩ := hw.at_ hi; exact (plan_rdS h1).1.mono fun k hk => (h2 k hk).1
theorem srdp {y : Pl} {D : Nat → Nat → Int} {i : Nat} {H' : List HP} (hi : sel H i = some (HP.plan y D, H')) : ∀ w, HA w0 F H w → y.rdd w (Old w) D := fun w hw => by
  obtain ⟨S, h1, h2⟩ := hw.at_ hi; exact (plan_rdS h1).2.mono fun k hk => (h2 k hk).1
section
variable {y : Pl} {D : Nat → Nat → Int}
theorem p_b (h : ∀ w, HA w0 F H w → y.rd0 w (Old w)) : ∀ w, HA w0 F H w → Rd w (Old w) (some ⟨y.B, 0, none⟩) y.cells := fun w hw => (h w hw).b
theorem p_c (h : ∀ w, HA w0 F H w → y.rd0 w (Old w)) : ∀ w, HA w0 F H w → Rd w (Old w) y.Ac (bls y.x.n y.x.cell) := fun w hw => (h w hw).c
theorem p_a (h : ∀ w, HA w0 F H w → y.rd0 w (Old w)) : ∀ w, HA w0 F H w → Rd w (Old w) y.Aa (slc2 y.x.K y.Xa (fun _ => y.x.n) y.ua) := fun w hw => (h w hw).a
theorem p_ar (h : ∀ w, HA w0 F H w → y.rd0 w (Old w)) {k : Nat} (hk : k < y.x.K) : ∀ w, HA w0 F H w → Rd w (Old w) (y.Xa k) (bls y.x.n (y.x.al k)) := fun w hw => (h w hw).ar k hk
theorem p_d (h : ∀ w, HA w0 F H w → y.rd0 w (Old w)) : ∀ w, HA w0 F H w → Rd w (Old w) y.Ad (slc2 y.x.K y.Xd (fun _ => y.x.n) y.ud) := fun w hw => (h w hw).d
theorem p_n (h : ∀ w, HA w0 F H w → y.rd0 w (Old w)) : ∀ w, HA w0 F H w → Rd w (Old w) y.An (slc2 y.x.n y.Xn (fun p => (y.x.nr p).length) y.un) := fun w hw => (h w hw).n
theorem p_nr (h : ∀ w, HA w0 F H w → y.rd0 w (Old w)) {p : Nat} (hp : p < y.x.n) : ∀ w, HA w0 F H w → Rd w (Old w) (y.Xn p) (ints (nn y.x p)) := fun w hw => (h w hw).nr p hp
theorem p_dr (h : ∀ w, HA w0 F H w → y.rdd w (Old w) D) {k : Nat} (hk : k < y.x.K) : ∀ w, HA w0 F H w → Rd w (Old w) (y.Xd k) (iis y.x.n (D k)) := fun w hw => h w hw k hk
end
/-- a cell of a block that can be read. -/
theorem PV.load_at {t : TypeId} {x : Operand} {B j : Nat} {v : Value} {cs : List Value} (hR : ∀ w, HA w0 F H w → Rd w (Old w) (some ⟨B, 0, none⟩) cs) (ht : Na P t) (ho : o.op = .load t x) (hx : ev l x = some (.pointer (some ⟨B, j, none⟩)))
    (hv : cs[j]? = some v) : PV P n w0 F l H o v := by
  refine PV.load_of (A := some ⟨B, 0, none⟩) (k := j) hR ht ho ?_ hv
  rw [hx]
  unfold eptr
  simp only [Option.map_some]
  congr 3
  unfold Addr.add; split <;> simp_all
theorem PV.load_sc {t : TypeId} {x : Operand} {A : Option Addr} {k m N : Nat} {B : Nat → Option Addr} {c : Nat → Nat} (hR : ∀ w, HA w0 F H w → Rd w (Old w) A (slc2 m B (fun _ => N) c)) (ht : Na P t) (ho : o.op = .load t x) (hx : ev l x = some (eptr A k)) (hk : k < m) :
    PV P n w0 F l H o (.slice (B k) N (c k)) := PV.load_s2 hR ht ho hx hk
theorem PV.load_sn {t : TypeId} {x : Operand} {A : Option Addr} {k m : Nat} {g : Bf.G} {B : Nat → Option Addr} {c : Nat → Nat} (hR : ∀ w, HA w0 F H w → Rd w (Old w) A (slc2 m B (fun p => (g.nr p).length) c)) (ht : Na P t) (ho : o.op = .load t x) (hx : ev l x = some (eptr A k)) (hk : k < m) :
    PV P n w0 F l H o (.slice (B k) (g.nr k).length (c k)) := PV.load_s2 hR ht ho hx hk
theorem PV.load_nn {t : TypeId} {x : Operand} {A : Option Addr} {j p : Nat} {g : Bf.G} (hR : ∀ w, HA w0 F H w → Rd w (Old w) A (ints (nn g p))) (ht : Na P t) (ho : o.op = .load t x) (hx : ev l x = some (eptr A j)) (hj : j < (g.nr p).length) :
    PV P n w0 F l H o (.int .i64 (((g.nr p).getD j 0 : Nat) : Int)) := by
  have h := PV.load_int (P := P) (n := n) hR ht ho hx (by simpa using hj)
  rwa [nn_get] at h

/-! ### The queue -/
def qI (q : List (Nat × Nat)) : List (Int × Int) := q.map fun s => ((s.1 : Int), (s.2 : Int))
@[simp] theorem qI_length (q : List (Nat × Nat)) : (qI q).length = q.length := by simp [qI]
theorem qI_get (q : List (Nat × Nat)) (j : Nat) : (qI q).getD j (0, 0) = (((Bf.at_ q j).1 : Int), ((Bf.at_ q j).2 : Int)) := by
  unfold qI Bf.at_
  rw [List.getD_eq_getElem?_getD, List.getD_eq_getElem?_getD, List.getElem?_map]
  cases q[j]? <;> rfl
theorem qI_snoc (q : List (Nat × Nat)) (p k : Nat) : pairs (qI (q ++ [(p, k)])) = pairs (qI q) ++ [.int .i64 (p : Int), .int .i64 (k : Int)] := by
  have : ∀ a b : List (Int × Int), pairs (a ++ b) = pairs a ++ pairs b := by
    intro a b
    induction a with
    | nil => rfl
    | cons x r ih => simp only [List.cons_append, pairs, ih]
  simp only [qI, List.map_append, List.map_cons, List.map_nil, this]
  rfl
def HP.que (B : Nat) (q : List (Nat × Nat)) (h : Nat) : HP where
  sem S w := ∃ A c, (HP.bag [HP.blk B 151 [.slice A q.length c, .int .i64 (h : Int)], HP.row 154 2 A q.length c (pairs (qI q))]).sem S w
  loc := fun S w w' h ⟨A, c, hb⟩ => ⟨A, c, (HP.bag _).loc S w w' h hb⟩
theorem OW.cvt {ops : Array Oper} {rest : List Oper} {H' : List HP} (h : ∀ w U, Chunks w U H → Chunks w U H') (k : OW P n w0 F ops K rest l H') : OW P n w0 F ops K rest l H := fun a w ha hw => k a w ha { hw with chunks := h w _ hw.chunks }
theorem AW.conv {ops : Array Oper} {HS H' : List HP} {fuel : Nat} {listed : Array Bool} (h : ∀ w U, Chunks w U H → Chunks w U H') (k : AW P n w0 F ops K HS fuel listed l H') : AW P n w0 F ops K HS fuel listed l H := fun a w ha hw => k a w ha { hw with chunks := h w _ hw.chunks }
theorem cv_chunk (i : Nat) {p : HP} (p' : HP) {H' : List HP} (hi : sel H i = some (p, H')) (he : p = p') : ∀ w U, Chunks w U H → Chunks w U (p' :: H') := fun _ _ h => he ▸ h.perm (sel_perm hi)
theorem cv_gather (is : List Nat) (m : Nat) {H1 ps r : List HP} (hs : E.sels H is = some H1) (h2 : spl H1 m = some (ps, r)) : ∀ w U, Chunks w U H → Chunks w U (HP.bag ps :: r) := fun w U h => by
  have h3 := sels_chunks hs h
  rw [spl_eq h2] at h3
  exact h3.gather
theorem cv_quein {q : List (Nat × Nat)} (i j : Nat) {B cc h m : Nat} {A : Option Addr} {xs : List Value} {H1 H2 : List HP} (hi : sel H i = some (HP.blk B 151 [.slice A m cc, .int .i64 (h : Int)], H1)) (hj : sel H1 j = some (HP.row 154 2 A m cc xs, H2)) (hm : m = q.length) (hx : xs = pairs (qI q)) :
    ∀ w U, Chunks w U H → Chunks w U (HP.que B q h :: H2) := fun w U hc => by
  subst hm hx
  have h1 := hc.perm ((sel_perm hi).trans ((sel_perm hj).cons _))
  obtain ⟨S, g1, g2, g3⟩ := Chunks.gather (ps := [HP.blk B 151 [.slice A q.length cc, .int .i64 (h : Int)], HP.row 154 2 A q.length cc (pairs (qI q))]) (r := H2) h1
  exact ⟨S, ⟨A, cc, g1⟩, g2, g3⟩
theorem dist_upd (y : Pl) (D : Nat → Nat → Int) (k p : Nat) (m : Int) : HP.rows 3 y.x.K y.Xd (fun _ => y.x.n) y.ud (fun k' => iis y.x.n (up D k (up (D k) p m) k')) = HP.dist y (Bf.upd D k p m) := by
  unfold HP.dist
  congr 1
  funext k'
  congr 1
  funext i
  unfold up Bf.upd
  by_cases h1 : k' = k
  · subst h1
    by_cases h2 : i = p
    · subst h2; simp
    · simp [h2]
  · simp [h1]
/-- a call of a function value that has captured something, and may turn the chunk i. -/
theorem OW.callcM {ops : Array Oper} {o : Oper} {rest : List Oper} {d : Nat} {f : Nat} {fo : Operand} {xs : List Operand} {ts : Array TypeId} {vs caps : List Value} (hf : Nm P f)
    (hg : gd ops l o.guard = some true) (hd : o.dst = some d) (hn : Nat.blt d n.sz = true) (ho : o.op = .call { callee := .value fo, args := xs.toArray, argTypes := ts })
    (hfo : ev l fo = some (.func (.func f) #[] caps.toArray)) (hx : evs l xs = some vs) (R : Value → List HP → Prop) (i : Nat) {p : HP} {H' : List HP} (hi : E.sel H i = some (p, H'))
    (h : ∀ w S, HA w0 F (p :: H') w → p.sem S w → (∀ k, S k → k < w.heap.size ∧ ¬ F k) → Chunks w (fun k => F k ∨ S k) H' → Calls P f (vs ++ caps).toArray w (Post w (fun k => k < w.heap.size ∧ ¬ S k) R))
    (k : ∀ v Hn, R v Hn → OW P n w0 F ops K rest ((d, v) :: l) (Hn ++ H')) : OW P n w0 F ops K (o :: rest) l H := fun a w ha hw => by
  refine wpListIn_step fun K' hK' => ?_
  rw [if_pos (ha.wanted hg)]
  refine wi_enter (run_callc hf (ha.ev hfo) ho (ha.evs hx)) ?_
  have hw1 := hw.perm (sel_perm hi)
  obtain ⟨S, h1, h2, h3⟩ := hw1.chunks
  have hcall := h w S hw1 h1 h2 h3
  rw [show (vs ++ caps).toArray = vs.toArray ++ caps.toArray by simp] at hcall
  refine hcall.mono fun e w' ⟨v, Hn, he, hR, hw'⟩ => ?_
  refine ⟨v, he, ?_⟩
  rw [hd]
  refine hK' _ _ (k v Hn hR _ _ (ha.put hn v) ?_)
  have hF : ∀ k, F k → k < w.heap.size ∧ ¬ S k := fun k hf => ⟨Nat.lt_of_lt_of_le (hw.flt k hf) hw.size, fun hs => (h2 k hs).2 hf⟩
  refine ⟨hw'.os.trans hw.os, hw'.tape.trans hw.tape, hw'.output.trans hw.output, Nat.le_trans hw.size hw'.size, hw.flt, fun k hf => (hw'.kept k (hF k hf)).trans (hw.kept k hf), ?_⟩
  refine Chunks.app (G := fun k => k < w.heap.size ∧ ¬ S k) ?_ ?_
  · exact hw'.chunks.congr fun k => ⟨.inr, fun hk' => hk'.elim (hF k) id⟩
  · exact ChunksB.of (w := w) hw'.size (fun k hk' => hw'.kept k hk') (U := fun k => F k ∨ S k) (fun k hlt hn => ⟨hlt, fun hs => hn (.inr hs)⟩) (fun k hf => .inl hf) h3
/-! what can be read while the chunk S may turn. -/
theorem rd0_in {w : World} {S : Nat → Prop} {H' H2 : List HP} {y : Pl} {i : Nat} (hc : Chunks w (fun k => F k ∨ S k) H') (hi : sel H' i = some (HP.pl0 y, H2)) : y.rd0 w (Fm w S) := by
  obtain ⟨T, h1, h2⟩ := hc.at_ hi
  exact (pl0_rdS h1).mono fun k hk => ⟨(h2 k hk).1, fun hs => (h2 k hk).2 (.inr hs)⟩
theorem blk_in {w : World} {S : Nat → Prop} {H' H2 : List HP} {B T : Nat} {cs : List Value} {i : Nat} (hc : Chunks w (fun k => F k ∨ S k) H') (hi : sel H' i = some (HP.blk B T cs, H2)) : Rd w (Fm w S) (some ⟨B, 0, none⟩) cs := by
  obtain ⟨T, h1, h2⟩ := hc.at_ hi
  exact (blk_rdS h1).mono fun k hk => ⟨(h2 k hk).1, fun hs => (h2 k hk).2 (.inr hs)⟩
theorem CW.queout {c : Code} (i : Nat) {B h : Nat} {q : List (Nat × Nat)} {H1 : List HP} (hi : sel H i = some (HP.que B q h, H1)) (k : ∀ A cc, CW P n w0 F c K l (HP.blk B 151 [.slice A q.length cc, .int .i64 (h : Int)] :: HP.row 154 2 A q.length cc (pairs (qI q)) :: H1)) : CW P n w0 F c K l H := fun a w ha hw => by
  have h1 := hw.sel hi
  obtain ⟨S, ⟨A, cc, g1⟩, g2, g3⟩ := h1.chunks
  exact k A cc a w ha { h1 with chunks := Chunks.open (ps := [HP.blk B 151 [.slice A q.length cc, .int .i64 (h : Int)], HP.row 154 2 A q.length cc (pairs (qI q))]) ⟨S, g1, g2, g3⟩ }
end
end E
end Go.Proofs.Ytflkbabhbnmajaa

/- Laws about configs, plainly: one cell, entry or spot replaced, the order of spots, projections compared. No program in sight. -/
namespace Go.Proofs.Ytflkbabhbnmajaa
set_option linter.unusedSimpArgs false
set_option linter.unusedVariables false
namespace Cf
open Go
theorem teamsOk_iff {g : C} : teamsOk g = true ↔ (1 ≤ g.ts.length ∧ g.ts.length ≤ 3) ∧ (∀ j, j < g.ts.length → teamOk g j = true) ∧ (g.l.all (belongs g.ts) = true ∧ g.s.all (belongs g.ts) = true) ∧ (List.range g.ts.length).any (fun j => !absent (g.ts.getD j T.z)) = true := by
  unfold teamsOk
  simp only [Bool.and_eq_true, decide_eq_true_eq]
  rw [List.all_eq_true]
  simp only [List.mem_range]
  constructor
  · rintro ⟨⟨⟨⟨⟨a, b⟩, c⟩, d⟩, e⟩, f⟩; exact ⟨⟨a, b⟩, c, ⟨d, e⟩, f⟩
  · rintro ⟨⟨a, b⟩, c, ⟨d, e⟩, f⟩; exact ⟨⟨⟨⟨⟨a, b⟩, c⟩, d⟩, e⟩, f⟩
/-! ### One entry of the slice table replaced -/
/-! ### One cell replaced -/
def SpotAt (ts : List T) (p s : Int) : Prop := (s = -1 ∧ ∀ j, j < ts.length → ¬ p ∈ spots (ts.getD j T.z)) ∨ ∃ t : Nat, s = t ∧ t < ts.length ∧ p ∈ spots (ts.getD t T.z)
/-! ### Projections compared -/
def agr (g h : C) (t : Nat) : Prop := (g.a = h.a ∧ g.b = h.b ∧ g.s.length = h.s.length ∧ g.ts.length = h.ts.length ∧ g.st = h.st ∧ g.ts.getD t T.z = h.ts.getD t T.z) ∧
  (∀ p, p < g.l.length → (Fl.own t (g.l.getD p 0) = Fl.own t (h.l.getD p 0) ∧ decide (Fl.ownerC (g.l.getD p 0) = -2) = decide (Fl.ownerC (h.l.getD p 0) = -2))) ∧ ∀ i, i < g.s.length → (((g.s.getD i 0).toNat : Int) = t + 1 ↔ ((h.s.getD i 0).toNat : Int) = t + 1)
instance (g h : C) (t : Nat) : Decidable (agr g h t) := by unfold agr; infer_instance
/-! ### The order of spots -/
def swp (l : List Int) (a b : Nat) : List Int := (l.set a (l.getD b 0)).set b (l.getD a 0)
theorem spots_small {m : T} (h : small m) : (spots m).length ≤ 9 := by rw [spots_len]; obtain ⟨a, b, c⟩ := h; omega
end Cf
namespace E
open Go Go.RowKit
section
variable {P : Program} {n : Fr} {w0 : World} {F : Nat → Prop} {K : Kt} {l : Env} {H : List HP} {o : Oper}
end
end E
end Go.Proofs.Ytflkbabhbnmajaa

/- More laws about configs, plainly: the present tenants, the spots of two tenants, projections, encodings. No program in sight. -/
namespace Go.Proofs.Ytflkbabhbnmajaa
set_option linter.unusedSimpArgs false
set_option linter.unusedVariables false
namespace Cf
open Go
section
variable {g : C} {k : Nat}
theorem teamsOk_of (h : check g = 0) : teamsOk g = true := (check_zero h).2.2.1
theorem team_at (h : check g = 0) (hk : k < g.ts.length) : absent (g.ts.getD k T.z) = true ∨ validTeam g.l k (g.ts.getD k T.z) = true := by
  have := (teamsOk_iff.1 (teamsOk_of h)).2.1 k hk
  unfold teamOk at this
  rwa [Bool.or_eq_true] at this
end
/-! ### The spots of valid teams -/
section
variable {a b : Int} {l : List UInt8} {t : Int} {m : T}
end
/-! ### One spot replaced -/
def repl (m : T) (i : Nat) (p : Int) : T := if i < m.h.length then ⟨m.h.set i p, m.p, m.d, m.n1, m.n2, m.n3, m.n4, m.n5⟩
  else if i - m.h.length < m.p.length then ⟨m.h, m.p.set (i - m.h.length) p, m.d, m.n1, m.n2, m.n3, m.n4, m.n5⟩
  else ⟨m.h, m.p, m.d.set (i - m.h.length - m.p.length) p, m.n1, m.n2, m.n3, m.n4, m.n5⟩
def oth (l : List Int) (ix p : Int) (k : Nat) : Bool := (List.range k).all fun j => decide ((j : Int) = ix) || !decide (l.getD j 0 = p)
section
variable {A : Bool} {l : List Int} {ix p : Int} {k : Nat}
end
end Cf
end Go.Proofs.Ytflkbabhbnmajaa

/- The plan of a leg, plainly: places and their neighbours, cells, allowed places, arrivals. No program in sight. -/
set_option linter.unusedSimpArgs false
set_option linter.unusedVariables false
namespace Go.Proofs.Ytflkbabhbnmajaa
namespace Rt
open Cf
/-- a place, and its neighbours in the first d directions. -/
def nearTo (a b p : Int) (d : Nat) : List Int := p :: (((List.range d).map fun (i : Nat) => Fl.mv a b p (i : Int)).filter fun q => decide (0 ≤ q))
def nearI (a b p : Int) : List Int := nearTo a b p 4
theorem near_first (a b p : Int) : nearI a b p = [] ++ p :: (((List.range 4).map fun (i : Nat) => Fl.mv a b p (i : Int)).filter fun q => decide (0 ≤ q)) := rfl
theorem near_yes {a b p : Int} {d : Nat} (h : 0 ≤ Fl.mv a b p d) : nearTo a b p (d + 1) = nearTo a b p d ++ [Fl.mv a b p d] := by
  unfold nearTo
  rw [List.range_succ, List.map_append, List.filter_append, List.map_cons, List.map_nil, List.filter_cons, decide_eq_true h]
  rfl
theorem near_no {a b p : Int} {d : Nat} (h : Fl.mv a b p d < 0) : nearTo a b p (d + 1) = nearTo a b p d := by
  unfold nearTo
  rw [List.range_succ, List.map_append, List.filter_append, List.map_cons, List.map_nil, List.filter_cons, decide_eq_false (by omega)]
  simp
theorem near_more (a b p : Int) (d : Nat) : ∀ j, ∃ r, nearTo a b p (d + j) = nearTo a b p d ++ r := by
  intro j
  induction j with
  | zero => exact ⟨[], by simp⟩
  | succ j ih =>
    obtain ⟨r, hr⟩ := ih
    rcases Int.lt_or_le (Fl.mv a b p ((d + j : Nat) : Int)) 0 with h | h
    · exact ⟨r, by rw [← Nat.add_assoc, near_no h, hr]⟩
    · exact ⟨r ++ [Fl.mv a b p ((d + j : Nat) : Int)], by rw [← Nat.add_assoc, near_yes h, hr, List.append_assoc]⟩
theorem near_at {a b p : Int} {d : Nat} (hd : d < 4) (h : 0 ≤ Fl.mv a b p d) : ∃ r, nearI a b p = nearTo a b p d ++ Fl.mv a b p d :: r := by
  obtain ⟨r, hr⟩ := near_more a b p (d + 1) (4 - (d + 1))
  rw [show d + 1 + (4 - (d + 1)) = 4 by omega, near_yes h, List.append_assoc] at hr
  exact ⟨r, hr⟩
theorem near_mem {a b p q : Int} : q ∈ nearI a b p ↔ q = p ∨ ∃ d : Nat, d < 4 ∧ Fl.mv a b p d = q ∧ 0 ≤ q := by
  unfold nearI nearTo
  simp only [List.mem_cons, List.mem_filter, List.mem_map, List.mem_range, decide_eq_true_eq]
  constructor
  · rintro (h | ⟨⟨d, h1, h2⟩, h3⟩)
    · exact .inl h
    · exact .inr ⟨d, h1, h2, h3⟩
  · rintro (h | ⟨d, h1, h2, h3⟩)
    · exact .inl h
    · exact .inr ⟨⟨d, h1, h2⟩, h3⟩
theorem near_len (a b p : Int) (d : Nat) : (nearTo a b p d).length ≤ d + 1 := by
  unfold nearTo
  have := List.length_filter_le (fun q : Int => decide (0 ≤ q)) ((List.range d).map fun (i : Nat) => Fl.mv a b p (i : Int))
  simp only [List.length_map, List.length_range] at this
  simp only [List.length_cons]; omega
def sides (a b : Int) : Prop := 2 ≤ a ∧ a ≤ 8 ∧ 2 ≤ b ∧ b ≤ 8
theorem near_in {a b p q : Int} (hs : sides a b) (hp : 0 ≤ p ∧ p < a * b) (h : q ∈ nearI a b p) : 0 ≤ q ∧ q < a * b := by
  rcases near_mem.1 h with rfl | ⟨d, _, rfl, h3⟩
  · exact hp
  · exact ⟨h3, Fl.mv_ge hs h3⟩
theorem near_sym {a b p q : Int} (hs : sides a b) (hp : 0 ≤ p ∧ p < a * b) (h : q ∈ nearI a b p) : p ∈ nearI a b q := by
  have hq := near_in hs hp h
  rcases near_mem.1 h with rfl | ⟨d, h1, h2, h3⟩
  · exact h
  · have h4 := (Fl.dist_one hs hp hq).2 ⟨d, h1, h2⟩
    rw [Fl.dist_comm] at h4
    obtain ⟨e, h5, h6⟩ := (Fl.dist_one hs hq hp).1 h4
    exact near_mem.2 (.inr ⟨e, h5, h6, hp.1⟩)
/-! ### The plan of a leg -/
def team (g : C) (t : Int) : T := g.ts.getD t.toNat T.z
def mine (g : C) (t p : Int) : Bool := decide (owner g p = t)
def aisle (g : C) (p : Int) : Bool := decide (owner g p = -2)
def has (g : C) (t a b p : Int) : Bool := decide (p = a) || decide (p = b) || aisle g p || (mine g t p && !decide (p ∈ spots (team g t)))
def alw (g : C) (t a b tick p : Int) : Bool := has g t a b p && (mine g t p || (aisle g p && decide ((Fl.sliceOwner g.s tick).1 = t)))
def near (g : C) (p : Nat) : List Nat := (nearI g.a g.b p).map Int.toNat
def G (g : C) (t a b : Int) : Bf.G := ⟨g.l.length, g.s.length, fun p => has g t a b p, fun k p => alw g t a b (k : Int) (p : Int), near g, b.toNat⟩
structure Leg (g : C) (t a b : Int) : Prop where
  c : check g = 0
  p : present g.ts t = true
  ra : 0 ≤ a ∧ a < g.l.length
  rb : 0 ≤ b ∧ b < g.l.length
  ob : owner g b = t
  oa : owner g a = t ∨ owner g a = -2
theorem sides_of {g : C} (h : check g = 0) : sides g.a g.b := Fl.valid_iff.1 (Fl.validF_iff.1 (check_zero h).1).1.1
theorem len_of {g : C} (h : check g = 0) : (g.l.length : Int) = g.a * g.b := (Fl.validF_iff.1 (check_zero h).1).1.2
theorem len_le {g : C} (h : check g = 0) : g.l.length ≤ 64 := Fl.validF_len (check_zero h).1
theorem per_of {g : C} (h : check g = 0) : 1 ≤ g.s.length ∧ g.s.length ≤ 16 := (Fl.validS_iff.1 (check_zero h).2.1).1
theorem owner_off {g : C} (h : check g = 0) {p : Int} (hp : ¬ (0 ≤ p ∧ p < g.l.length)) : owner g p = -1 := by
  unfold owner Fl.owner
  have hs := sides_of h
  rw [if_pos (check_zero h).1, if_neg (c := Fl.has g.a g.b p = true) (fun hh => hp (by have := (Fl.has_iff.1 hh).2; have := len_of h; omega))]
  rfl
theorem owner_on {g : C} (h : check g = 0) {p : Int} (hp : 0 ≤ p ∧ p < g.l.length) : owner g p = Fl.ownerC (g.l.getD p.toNat 0) := by
  unfold owner Fl.owner
  rw [if_pos (check_zero h).1, if_pos (Fl.has_iff.2 ⟨sides_of h, by have := len_of h; omega⟩)]
  rfl
theorem pres_lt {ts : List T} {t : Int} (h : present ts t = true) : 0 ≤ t ∧ t < ts.length := by
  unfold present at h
  simp only [Bool.and_eq_true, decide_eq_true_eq] at h
  exact h.1
/-- legError finds nothing: it is a leg. -/
theorem leg_of {g : C} {t a b tick : Int} (h : legE g t a b tick = 0) : Leg g t a b ∧ tick ≤ 4611686018427389952 := by
  unfold legE at h
  split at h
  · rename_i h0
    split at h
    · rename_i h1
      unfold asked at h0
      split at h0
      · rename_i hc
        split at h0
        · rename_i hp
          have ht := pres_lt hp.1
          unfold onLeg at h1
          simp only [Bool.and_eq_true, Bool.or_eq_true, decide_eq_true_eq] at h1
          refine ⟨⟨hc, hp.1, ?_, ?_, h1.1, h1.2⟩, hp.2⟩
          · refine Decidable.byContradiction fun hn => ?_
            have := owner_off hc hn
            omega
          · refine Decidable.byContradiction fun hn => ?_
            have := owner_off hc hn
            omega
        · exact absurd h0 (by decide)
      · rename_i hc; exact absurd h0 hc
    · exact absurd h (by decide)
  · rename_i h0; exact absurd h h0
theorem leg_err {g : C} {t a b tick : Int} (h : Leg g t a b) (ht : tick ≤ 4611686018427389952) : legE g t a b tick = 0 := by
  unfold legE
  rw [if_pos (asked_ok h.c h.p ht), if_pos]
  unfold onLeg
  simp only [Bool.and_eq_true, Bool.or_eq_true, decide_eq_true_eq]
  exact ⟨h.ob, h.oa⟩
theorem Leg.ten {g : C} {t a b : Int} (h : Leg g t a b) : 0 ≤ t ∧ t < 3 ∧ t.toNat < g.ts.length := by
  have h1 := pres_lt h.p
  have h2 := teams_len (check_zero h.c).2.2.1
  omega
theorem Leg.valid {g : C} {t a b : Int} (h : Leg g t a b) : validTeam g.l t (team g t) = true := by
  have h1 := h.ten
  have h2 := team_at h.c h1.2.2
  have h3 := h.p
  unfold present at h3
  simp only [Bool.and_eq_true, Bool.not_eq_true'] at h3
  rcases h2 with h2 | h2
  · exact absurd h2 (by rw [show (g.ts.getD t.toNat T.z) = g.ts.getD t.toNat T.z from rfl, h3.2]; decide)
  · rw [Int.toNat_of_nonneg h1.1] at h2; exact h2
theorem Leg.spot {g : C} {t a b : Int} (h : Leg g t a b) {p : Int} (hp : p ∈ spots (team g t)) : (0 ≤ p ∧ p < g.l.length) ∧ owner g p = t := by
  have h1 := h.valid
  unfold validTeam at h1
  simp only [Bool.and_eq_true, List.all_eq_true] at h1
  have h2 := h1.1.2 p hp
  unfold ownAt at h2
  simp only [Bool.and_eq_true, decide_eq_true_eq] at h2
  refine ⟨h2.1, ?_⟩
  rw [owner_on h.c h2.1]
  have h3 := h.ten
  have h4 := Fl.okc_at (check_zero h.c).1 (j := p.toNat) (by omega)
  have h5 := h2.2
  rw [Fl.own_iff ⟨h3.1, h3.2.1⟩ h4] at h5
  exact of_decide_eq_true h5
theorem getD_mem {l : List Int} {i : Nat} (h : i < l.length) : l.getD i 0 ∈ l := by
  rw [List.getD_eq_getElem?_getD, List.getElem?_eq_getElem h, Option.getD_some]; exact List.getElem_mem _
theorem getD_memN {l : List Nat} {i : Nat} (h : i < l.length) : l.getD i 0 ∈ l := by
  rw [List.getD_eq_getElem?_getD, List.getElem?_eq_getElem h, Option.getD_some]; exact List.getElem_mem _
theorem near_pre {a b p : Int} {pre r : List Int} {x : Int} (h : nearI a b p = pre ++ x :: r) : pre.length ≤ 4 := by
  have h1 := near_len a b p 4
  have h2 := congrArg List.length h
  simp only [List.length_append, List.length_cons] at h2
  unfold nearI at h2
  omega
theorem G_near (g : C) (t a b : Int) (p : Nat) : ((G g t a b).nr p).length ≤ 5 := by
  have := near_len g.a g.b p 4
  show (near g p).length ≤ 5
  unfold near
  rw [List.length_map]
  exact this
theorem has_at {g : C} (h : check g = 0) {p : Nat} (hp : p < g.l.length) : Fl.has g.a g.b (p : Int) = true := Fl.has_iff.2 ⟨sides_of h, by have := len_of h; omega⟩
theorem spots_small {g : C} {t a b : Int} (h : Leg g t a b) : (spots (team g t)).length ≤ 9 := by
  have h1 := h.valid
  unfold validTeam at h1
  simp only [Bool.and_eq_true] at h1
  have h2 := numbers_len h1.1.1
  rw [spots_len]
  omega
theorem mem_near {g : C} {p q : Nat} : q ∈ near g p ↔ ((q : Int) ∈ nearI g.a g.b p) := by
  unfold near
  rw [List.mem_map]
  constructor
  · rintro ⟨x, h1, rfl⟩
    have : 0 ≤ x := by
      rcases near_mem.1 h1 with rfl | ⟨d, _, _, h3⟩ <;> omega
    rw [Int.toNat_of_nonneg this]; exact h1
  · intro h; exact ⟨q, h, by simp⟩
theorem G_ok {g : C} {t a b : Int} (h : Leg g t a b) : (G g t a b).ok where
  K0 := (per_of h.c).1
  nrlt := fun p q hp hq => by
    have h1 := near_in (sides_of h.c) (by have := len_of h.c; have : p < g.l.length := hp; omega) (mem_near.1 hq)
    have := len_of h.c
    show q < g.l.length
    omega
  sym := fun p q hp hq => mem_near.2 (near_sym (sides_of h.c) (by have := len_of h.c; have : p < g.l.length := hp; omega) (mem_near.1 hq))
  glt := by have := h.rb; show b.toNat < g.l.length; omega
  gal := fun k hk => by
    have hb : ((b.toNat : Nat) : Int) = b := Int.toNat_of_nonneg h.rb.1
    show alw g t a b (k : Int) ((b.toNat : Nat) : Int) = true
    rw [hb]
    unfold alw has mine
    rw [decide_eq_true h.ob, decide_eq_true (rfl : b = b)]
    simp
  alc := fun k p hk => by
    have : alw g t a b (k : Int) (p : Int) = true := hk
    unfold alw at this
    exact (Bool.and_eq_true _ _ ▸ this).1
theorem nn_near (g : C) (p : Nat) : (near g p).map (fun (q : Nat) => (q : Int)) = nearI g.a g.b p := by
  unfold near
  rw [List.map_map]
  conv => rhs; rw [← List.map_id (nearI g.a g.b p)]
  apply List.map_congr_left
  intro q hq
  have : 0 ≤ q := by
    rcases near_mem.1 hq with rfl | ⟨d, _, _, h3⟩ <;> omega
  simp [Int.toNat_of_nonneg this]
end Rt
end Go.Proofs.Ytflkbabhbnmajaa

/- Walks (printed by gen.py). -/
namespace Go.Proofs.Ytflkbabhbnmajaa
open Go Go.RowKit
set_option linter.unusedSimpArgs false
set_option linter.unusedVariables false

set_option maxRecDepth 100000 in
theorem Ar_ok (a b : Int) (A : Option Addr) (c : Nat) (l : List UInt8) (p : Int) (w0 : World) :
    Calls Try.prog 101 #[.agg #[.int .i64 a, .int .i64 b, .slice A l.length c], .int .i64 p] w0 (E.Post w0 (E.Old w0) fun v Hn => ∃ Bp Bf, v = .func (.func 126) #[] #[.pointer (some ⟨Bp, 0, none⟩), .pointer (some ⟨Bf, 0, none⟩)] ∧ Hn = [E.HP.blk Bp 3 [.int .i64 p], E.HP.blk Bf 24 [.int .i64 a, .int .i64 b, .slice A l.length c]]) := by
  refine E.calls_of (vs := [.agg #[.int .i64 a, .int .i64 b, .slice A l.length c], .int .i64 p]) (H := []) Try.func101 Try.ntmps101 rfl rfl (E.HA.start w0) ?_
  refine E.CW.seq ?_
  refine E.CW.region ?_
  refine E.OW.box rfl rfl rfl rfl rfl rfl (fun B1 => ?_)
  refine E.OW.box rfl rfl rfl rfl rfl rfl (fun B2 => ?_)
  refine E.OW.pure rfl rfl rfl (E.PV.assign rfl rfl) ?_
  refine E.OW.nil ?_
  refine E.then_n ?_
  refine E.CW.seq ?_
  refine E.CW.region ?_
  refine E.OW.pure rfl rfl rfl (E.PV.makeFunc (f := .func 126) (fs := []) (cs := [.tmp 3, .tmp 2]) rfl rfl rfl) ?_
  refine E.OW.pure rfl rfl rfl (E.PV.assign rfl rfl) ?_
  refine E.OW.nil ?_
  refine E.then_n ?_
  refine E.CW.ret ?_
  refine E.KR.one [0, 0] Try.results101 rfl rfl ?_
  exact ⟨_, _, rfl, rfl⟩

set_option maxRecDepth 100000 in
theorem ArI_ok (a b p : Int) (Z : Value) (Bp Bf L : Nat) (q : List Int → E.HP) (S : Nat → Prop) (w0 : World) (hhas : Fl.has a b p = true) (hY : E.YF Try.prog L q (Rt.nearI a b p)) (hS : (q []).sem S w0) (hb : ∀ k, S k → k < w0.heap.size) (hp : E.Rd w0 (E.Fm w0 S) (some ⟨Bp, 0, none⟩) [.int .i64 p]) (hf : E.Rd w0 (E.Fm w0 S) (some ⟨Bf, 0, none⟩) [.int .i64 a, .int .i64 b, Z]) :
    Calls Try.prog 126 #[.func (.yield L) #[] #[], .pointer (some ⟨Bp, 0, none⟩), .pointer (some ⟨Bf, 0, none⟩)] w0 (E.Post w0 (E.Fm w0 S) fun v Hn => Hn = [q (Rt.nearI a b p)]) := by
  refine E.calls_of (vs := [.func (.yield L) #[] #[], .pointer (some ⟨Bp, 0, none⟩), .pointer (some ⟨Bf, 0, none⟩)]) (H := [q []]) Try.func126 Try.ntmps126 rfl rfl (E.HA.startM hS hb) ?_
  refine E.CW.seq ?_
  refine E.CW.seq ?_
  refine E.CW.region ?_
  refine E.OW.pure rfl rfl rfl (E.PV.move rfl rfl) ?_
  refine E.OW.pure rfl rfl rfl (E.PV.load_at (E.rdc hp) na3 rfl rfl rfl) ?_
  refine E.OW.yield rfl rfl rfl rfl rfl rfl hY 0 rfl (Rt.near_first a b p) ?_
  refine E.OW.pure rfl rfl rfl (E.PV.not rfl rfl) ?_
  refine E.OW.nil ?_
  refine E.then_n ?_
  refine E.CW.cond rfl (fun hc => ?_) (fun hc => ?_)
  · (cases hc; done)
  · simp only [E.b0, E.b1, E.b2, E.b3, E.b4, E.b5, E.b6, E.b7, E.b8, E.b9, E.b10, E.b11, E.b12, E.b13, E.b14, E.b15, E.b16, E.b17, E.b18, E.b19, E.b20, reduceCtorEq] at hc
    all_goals (
      refine E.CW.skip ?_
      refine E.then_n ?_
      refine E.CW.seq ?_
      refine E.CW.region ?_
      refine E.OW.pure rfl rfl rfl (E.PV.assign rfl rfl) ?_
      refine E.OW.nil ?_
      refine E.then_n ?_
      refine E.CW.block ?_
      refine E.CW.loopk [0, 1, 2] 1 rfl rfl (fun mm mods Hm => ∃ d : Nat, mm = 4 - d ∧ mods = [(4, .int .i64 d)] ∧ Hm = [q (Rt.nearTo a b p d)] ∧ d ≤ 4) (4) ?_ ?_
      · exact ⟨[(4, _)], (by repeat (first | exact E.cov_nil | refine ⟨rfl, ?_⟩)), 0, rfl, rfl, rfl, by omega⟩
      · rintro _ _ _ ⟨d, rfl, rfl, rfl, hd⟩
        refine E.CW.seq ?_
        refine E.CW.seq ?_
        refine E.CW.region ?_
        refine E.OW.pure rfl rfl rfl (E.PV.move rfl rfl) ?_
        refine E.OW.pure rfl rfl rfl (E.PV.leq rfl rfl rfl) ?_
        refine E.OW.nil ?_
        refine E.then_n ?_
        refine E.CW.cond rfl (fun hc => ?_) (fun hc => ?_)
        · simp only [E.b0, E.b1, E.b2, E.b3, E.b4, E.b5, E.b6, E.b7, E.b8, E.b9, E.b10, E.b11, E.b12, E.b13, E.b14, E.b15, E.b16, E.b17, E.b18, E.b19, E.b20, reduceCtorEq] at hc
          all_goals (
            refine E.CW.skip ?_
            refine E.then_n ?_
            refine E.CW.seq ?_
            refine E.CW.block ?_
            refine E.CW.seq ?_
            rcases Fl.step_two (p := p) hhas (show 0 ≤ (d : Int) ∧ (d : Int) < 4 by omega) with ⟨hm, hst⟩ | ⟨hm, hst⟩
            · skip
              refine E.CW.region ?_
              refine E.OW.pure rfl rfl rfl (E.PV.fieldAddr fa24_0 rfl rfl) ?_
              refine E.OW.pure rfl rfl rfl (E.PV.load_at (E.rdc hf) na3 rfl rfl rfl) ?_
              refine E.OW.pure rfl rfl rfl (E.PV.fieldAddr fa24_1 rfl rfl) ?_
              refine E.OW.pure rfl rfl rfl (E.PV.load_at (E.rdc hf) na3 rfl rfl rfl) ?_
              refine E.OW.pure rfl rfl rfl (E.PV.load_at (E.rdc hp) na3 rfl rfl rfl) ?_
              refine E.OW.pure rfl rfl rfl (E.PV.move rfl rfl) ?_
              (refine E.OW.call nm127 rfl rfl rfl rfl rfl rfl _ (fun w hw => Step_ok _ _ _ _ w) ?_; rintro _ _ ⟨rfl, rfl⟩)
              refine E.OW.pure rfl rfl rfl (E.PV.move rfl rfl) ?_
              refine E.OW.pure rfl rfl rfl (E.PV.extract rfl rfl rfl) ?_
              refine E.OW.pure rfl rfl rfl (E.PV.extract rfl rfl rfl) ?_
              refine E.OW.pure rfl rfl rfl (E.PV.assign rfl rfl) ?_
              refine E.OW.pure rfl rfl rfl (E.PV.assign rfl rfl) ?_
              refine E.OW.nil ?_
              refine E.then_n ?_
              refine E.CW.seq ?_
              try (have hm2 : 0 ≤ Fl.mv a b p d := hm; obtain ⟨r, hr⟩ := Rt.near_at (show d < 4 by omega) hm2; rw [show Fl.mv a b p d = (Fl.step a b p d).1 from by rw [hst]] at hr)
              refine E.CW.region ?_
              refine E.OW.pure rfl rfl rfl (E.PV.move rfl rfl) ?_
              refine E.OW.pure rfl rfl rfl (E.PV.eql rfl rfl rfl) ?_
              refine E.OW.pure rfl rfl rfl (E.PV.move rfl rfl) ?_
              all_goals (refine E.OW.put 27 (.bool true) rfl (congrArg Value.bool ?_) ?_; (focus (rw [hst]; rfl)))
              all_goals (refine E.OW.pure rfl rfl rfl (E.PV.move rfl rfl) ?_)
              all_goals (refine E.OW.pure rfl rfl rfl (E.PV.move rfl rfl) ?_)
              all_goals (refine E.OW.yield rfl rfl rfl rfl rfl rfl hY 0 rfl hr ?_)
              all_goals (refine E.OW.pure rfl rfl rfl (E.PV.not rfl rfl) ?_)
              all_goals (refine E.OW.pure rfl rfl rfl (E.PV.pick_t rfl rfl rfl) ?_)
              all_goals (
                refine E.OW.nil ?_
                refine E.then_n ?_
                refine E.CW.cond rfl (fun hc => ?_) (fun hc => ?_)
                · (cases hc; done)
                · simp only [E.b0, E.b1, E.b2, E.b3, E.b4, E.b5, E.b6, E.b7, E.b8, E.b9, E.b10, E.b11, E.b12, E.b13, E.b14, E.b15, E.b16, E.b17, E.b18, E.b19, E.b20, reduceCtorEq] at hc
                  all_goals (
                    refine E.CW.skip ?_
                    refine E.blk_n ?_
                    refine E.then_n ?_
                    refine E.CW.region ?_
                    refine E.OW.pure rfl rfl rfl (E.PV.move rfl rfl) ?_
                    refine E.OW.pure rfl rfl rfl (E.PV.add_i64 rfl rfl rfl ?_) ?_; (focus (omega))
                    refine E.OW.pure rfl rfl rfl (E.PV.assign rfl rfl) ?_
                    refine E.OW.nil ?_
                    refine E.then_nf ?_
                    refine ⟨_, [(4, _)], [0], [_], ?_, by repeat (first | exact E.cov_nil | refine ⟨rfl, ?_⟩), rfl, d + 1, rfl, rfl, (by first | (have hm2 : 0 ≤ Fl.mv a b p d := hm; rw [Rt.near_yes hm2, hst]) | (have hm2 : Fl.mv a b p d < 0 := hm; rw [Rt.near_no hm2])), by omega⟩
                    omega))
            · skip
              refine E.CW.region ?_
              refine E.OW.pure rfl rfl rfl (E.PV.fieldAddr fa24_0 rfl rfl) ?_
              refine E.OW.pure rfl rfl rfl (E.PV.load_at (E.rdc hf) na3 rfl rfl rfl) ?_
              refine E.OW.pure rfl rfl rfl (E.PV.fieldAddr fa24_1 rfl rfl) ?_
              refine E.OW.pure rfl rfl rfl (E.PV.load_at (E.rdc hf) na3 rfl rfl rfl) ?_
              refine E.OW.pure rfl rfl rfl (E.PV.load_at (E.rdc hp) na3 rfl rfl rfl) ?_
              refine E.OW.pure rfl rfl rfl (E.PV.move rfl rfl) ?_
              (refine E.OW.call nm127 rfl rfl rfl rfl rfl rfl _ (fun w hw => Step_ok _ _ _ _ w) ?_; rintro _ _ ⟨rfl, rfl⟩)
              refine E.OW.pure rfl rfl rfl (E.PV.move rfl rfl) ?_
              refine E.OW.pure rfl rfl rfl (E.PV.extract rfl rfl rfl) ?_
              refine E.OW.pure rfl rfl rfl (E.PV.extract rfl rfl rfl) ?_
              refine E.OW.pure rfl rfl rfl (E.PV.assign rfl rfl) ?_
              refine E.OW.pure rfl rfl rfl (E.PV.assign rfl rfl) ?_
              refine E.OW.nil ?_
              refine E.then_n ?_
              refine E.CW.seq ?_
              try (have hm2 : 0 ≤ Fl.mv a b p d := hm; obtain ⟨r, hr⟩ := Rt.near_at (show d < 4 by omega) hm2; rw [show Fl.mv a b p d = (Fl.step a b p d).1 from by rw [hst]] at hr)
              refine E.CW.region ?_
              refine E.OW.pure rfl rfl rfl (E.PV.move rfl rfl) ?_
              refine E.OW.pure rfl rfl rfl (E.PV.eql rfl rfl rfl) ?_
              refine E.OW.pure rfl rfl rfl (E.PV.move rfl rfl) ?_
              all_goals (refine E.OW.put 27 (.bool false) rfl (congrArg Value.bool ?_) ?_; (focus (rw [hst]; rfl)))
              all_goals (refine E.OW.off rfl rfl rfl ?_)
              all_goals (refine E.OW.off rfl rfl rfl ?_)
              all_goals (refine E.OW.off rfl rfl rfl ?_)
              all_goals (refine E.OW.off rfl rfl rfl ?_)
              all_goals (refine E.OW.pure rfl rfl rfl (E.PV.pick_f rfl rfl rfl) ?_)
              all_goals (
                refine E.OW.nil ?_
                refine E.then_n ?_
                refine E.CW.cond rfl (fun hc => ?_) (fun hc => ?_)
                · (cases hc; done)
                · simp only [E.b0, E.b1, E.b2, E.b3, E.b4, E.b5, E.b6, E.b7, E.b8, E.b9, E.b10, E.b11, E.b12, E.b13, E.b14, E.b15, E.b16, E.b17, E.b18, E.b19, E.b20, reduceCtorEq] at hc
                  all_goals (
                    refine E.CW.skip ?_
                    refine E.blk_n ?_
                    refine E.then_n ?_
                    refine E.CW.region ?_
                    refine E.OW.pure rfl rfl rfl (E.PV.move rfl rfl) ?_
                    refine E.OW.pure rfl rfl rfl (E.PV.add_i64 rfl rfl rfl ?_) ?_; (focus (omega))
                    refine E.OW.pure rfl rfl rfl (E.PV.assign rfl rfl) ?_
                    refine E.OW.nil ?_
                    refine E.then_nf ?_
                    refine ⟨_, [(4, _)], [0], [_], ?_, by repeat (first | exact E.cov_nil | refine ⟨rfl, ?_⟩), rfl, d + 1, rfl, rfl, (by first | (have hm2 : 0 ≤ Fl.mv a b p d := hm; rw [Rt.near_yes hm2, hst]) | (have hm2 : Fl.mv a b p d < 0 := hm; rw [Rt.near_no hm2])), by omega⟩
                    omega)))
        · simp only [E.b0, E.b1, E.b2, E.b3, E.b4, E.b5, E.b6, E.b7, E.b8, E.b9, E.b10, E.b11, E.b12, E.b13, E.b14, E.b15, E.b16, E.b17, E.b18, E.b19, E.b20, reduceCtorEq] at hc
          all_goals (
            refine E.CW.exit ?_
            refine E.then_x ?_
            refine E.then_x ?_
            refine E.blk_eq ?_
            refine (E.KR.zero [0] Try.results126 rfl ?_).1
            obtain rfl : d = 4 := by omega
            exact rfl))
end Go.Proofs.Ytflkbabhbnmajaa

/- Closed facts on the program (printed by gen.py). -/
namespace Go.Proofs.Ytflkbabhbnmajaa
open Go Go.RowKit
set_option linter.unusedSimpArgs false
set_option linter.unusedVariables false
theorem bsl149_1_0 (x0 : Int) (x1 : Int) (w : World) : (Instr.buildSlice 149 1 #[(0, .agg #[.int .i64 x0, .int .i64 x1])]).run Try.prog w = .ok (.slice (some ⟨w.heap.size, 0, none⟩) 1 1) (w.alloc (.cells #[.int .i64 x0, .int .i64 x1] 154)) := by kernel_rfl
theorem fa151_0 : E.FA Try.prog 151 0 0 := fun _ _ _ => by kernel_rfl
theorem fa151_1 : E.FA Try.prog 151 1 1 := fun _ _ _ => by kernel_rfl
theorem in149 : E.In Try.prog 149 (.slice none 0 0) 1 24 := by unfold E.In; kernel_rfl
theorem in154 : E.In Try.prog 154 (.agg #[.int .i64 0, .int .i64 0]) 2 16 := by unfold E.In; kernel_rfl
theorem is154 : E.Is Try.prog 154 2 := ⟨fun _ => by kernel_rfl, fun _ => by kernel_rfl⟩
theorem na149 : E.Na Try.prog 149 := fun _ => by kernel_rfl
end Go.Proofs.Ytflkbabhbnmajaa

/- Walks (printed by gen.py). -/
namespace Go.Proofs.Ytflkbabhbnmajaa
open Go Go.RowKit
set_option linter.unusedSimpArgs false
set_option linter.unusedVariables false

set_option maxRecDepth 100000 in
theorem push_ok (B : Nat) (q : List (Nat × Nat)) (h p k : Nat) (S : Nat → Prop) (w0 : World) (hS : (E.HP.que B q h).sem S w0) (hb : ∀ k, S k → k < w0.heap.size) (hq : q.length ≤ 2000) :
    Calls Try.prog 129 #[.pointer (some ⟨B, 0, none⟩), .agg #[.int .i64 (p : Int), .int .i64 (k : Int)]] w0 (E.Post w0 (E.Fm w0 S) fun v Hn => Hn = [E.HP.que B (q ++ [(p, k)]) (h)]) := by
  refine E.calls_of (vs := [.pointer (some ⟨B, 0, none⟩), .agg #[.int .i64 (p : Int), .int .i64 (k : Int)]]) (H := [E.HP.que B (q) (h)]) Try.func129 Try.ntmps129 rfl rfl (E.HA.startM hS hb) ?_
  refine E.CW.seq ?_
  refine E.CW.queout 0 rfl (fun AQ cQ => ?_)
  refine E.CW.region ?_
  refine E.OW.box rfl rfl rfl rfl rfl rfl (fun B1 => ?_)
  refine E.OW.nil ?_
  refine E.then_n ?_
  refine E.CW.drawx mixed [0] rfl ?_
  all_goals (refine E.AW.first 0 rfl (by kernel_rfl) (by kernel_rfl) (by kernel_rfl) rfl rfl rfl (E.PV.move rfl rfl) ?_)
  all_goals (refine E.AW.first 1 rfl (by kernel_rfl) (by kernel_rfl) (by kernel_rfl) rfl rfl rfl (E.PV.move rfl rfl) ?_)
  all_goals (refine E.AW.first 2 rfl (by kernel_rfl) (by kernel_rfl) (by kernel_rfl) rfl rfl rfl (E.PV.nilCheck rfl rfl) ?_)
  all_goals (refine E.AW.first 3 rfl (by kernel_rfl) (by kernel_rfl) (by kernel_rfl) rfl rfl rfl (E.PV.fieldAddr fa151_0 rfl rfl) ?_)
  all_goals (refine E.AW.first 5 rfl (by kernel_rfl) (by kernel_rfl) (by kernel_rfl) rfl rfl rfl (E.PV.loads (i := 0) is154 rfl rfl rfl rfl) ?_)
  all_goals (
    refine E.AW.two 4 6 (by kernel_rfl) rfl rfl ?ga1 ?gb1
    case' ga1 =>
        all_goals (refine E.OW.pure rfl rfl rfl (E.PV.load (i := 1) na149 rfl rfl rfl rfl) ?_)
        all_goals (first | (refine E.AW.nil [0] rfl ?_) | (refine E.AW.nil [1] rfl ?_) | (refine E.AW.nil [2] rfl ?_) | (refine E.AW.nil [3] rfl ?_) | (refine E.AW.nil [4] rfl ?_) | (refine E.AW.nil [5] rfl ?_) | (refine E.AW.nil [6] rfl ?_) | (refine E.AW.nil [0] rfl ?_) | (refine E.AW.nil [0] rfl ?_))
        all_goals (refine E.AW.one 6 (by kernel_rfl) rfl ?_)
        all_goals (refine E.OW.buildSlice (Et := 154) (sz := 2) (ps := [(0, .tmp 9)]) rfl rfl rfl rfl rfl (by simp) (by unfold maxLen; omega) (fun w => bsl149_1_0 _ _ w) (fun A2 => ?_))
        all_goals (first | (refine E.AW.nil [0] rfl ?_) | (refine E.AW.nil [1] rfl ?_) | (refine E.AW.nil [2] rfl ?_) | (refine E.AW.nil [3] rfl ?_) | (refine E.AW.nil [4] rfl ?_) | (refine E.AW.nil [5] rfl ?_) | (refine E.AW.nil [6] rfl ?_) | (refine E.AW.nil [0] rfl ?_) | (refine E.AW.nil [0] rfl ?_))
        all_goals (refine E.AW.one 7 (by kernel_rfl) rfl ?_)
        all_goals (refine E.OW.append (i := 3) Try.underlying149 in154 rfl rfl (by decide) rfl rfl rfl rfl rfl rfl rfl (E.rdr (i := 0) rfl) ?_ ?_ ?_ ?_ (fun A3 c3 => ?_); (focus ((first | rfl | (simp; done) | omega))); (focus ((first | exact E.ints_one | exact E.u8s_one | (simp [Value.oneCell']; done)))); (focus ((unfold maxLen; omega))); (focus ((first | omega | (simp only [List.length_append, List.length_cons, List.length_nil] at *; omega) | (unfold maxLen at *; omega)))))
        all_goals (first | (refine E.AW.nil [0] rfl ?_) | (refine E.AW.nil [1] rfl ?_) | (refine E.AW.nil [2] rfl ?_) | (refine E.AW.nil [3] rfl ?_) | (refine E.AW.nil [4] rfl ?_) | (refine E.AW.nil [5] rfl ?_) | (refine E.AW.nil [6] rfl ?_) | (refine E.AW.nil [0] rfl ?_) | (refine E.AW.nil [0] rfl ?_))
        all_goals (refine E.AW.first 8 rfl (by kernel_rfl) (by kernel_rfl) (by kernel_rfl) rfl rfl rfl (E.PV.nilCheck rfl rfl) ?_)
        all_goals (refine E.AW.first 9 rfl (by kernel_rfl) (by kernel_rfl) (by kernel_rfl) rfl rfl rfl (E.PV.fieldAddr fa151_0 rfl rfl) ?_)
        all_goals (refine E.AW.one 10 (by kernel_rfl) rfl ?_)
        all_goals (refine E.OW.store (i := 3) in149.size rfl rfl rfl rfl rfl rfl rfl rfl rfl ?_)
        all_goals (first | (refine E.AW.nil [0] rfl ?_) | (refine E.AW.nil [1] rfl ?_) | (refine E.AW.nil [2] rfl ?_) | (refine E.AW.nil [3] rfl ?_) | (refine E.AW.nil [4] rfl ?_) | (refine E.AW.nil [5] rfl ?_) | (refine E.AW.nil [6] rfl ?_) | (refine E.AW.nil [0] rfl ?_) | (refine E.AW.nil [0] rfl ?_))
        all_goals (refine E.AW.conv (E.cv_quein (q := q ++ [(p, k)]) 0 0 rfl rfl (by simp) (E.qI_snoc q p k).symm) ?_)
        all_goals (refine E.AW.done (by kernel_rfl) ?_)
    case' gb1 =>
        all_goals (refine E.OW.buildSlice (Et := 154) (sz := 2) (ps := [(0, .tmp 9)]) rfl rfl rfl rfl rfl (by simp) (by unfold maxLen; omega) (fun w => bsl149_1_0 _ _ w) (fun A4 => ?_))
        all_goals (first | (refine E.AW.nil [0] rfl ?_) | (refine E.AW.nil [1] rfl ?_) | (refine E.AW.nil [2] rfl ?_) | (refine E.AW.nil [3] rfl ?_) | (refine E.AW.nil [4] rfl ?_) | (refine E.AW.nil [5] rfl ?_) | (refine E.AW.nil [6] rfl ?_) | (refine E.AW.nil [0] rfl ?_) | (refine E.AW.nil [0] rfl ?_))
        all_goals (refine E.AW.one 4 (by kernel_rfl) rfl ?_)
        all_goals (refine E.OW.pure rfl rfl rfl (E.PV.load (i := 2) na149 rfl rfl rfl rfl) ?_)
        all_goals (first | (refine E.AW.nil [0] rfl ?_) | (refine E.AW.nil [1] rfl ?_) | (refine E.AW.nil [2] rfl ?_) | (refine E.AW.nil [3] rfl ?_) | (refine E.AW.nil [4] rfl ?_) | (refine E.AW.nil [5] rfl ?_) | (refine E.AW.nil [6] rfl ?_) | (refine E.AW.nil [0] rfl ?_) | (refine E.AW.nil [0] rfl ?_))
        all_goals (refine E.AW.one 7 (by kernel_rfl) rfl ?_)
        all_goals (refine E.OW.append (i := 3) Try.underlying149 in154 rfl rfl (by decide) rfl rfl rfl rfl rfl rfl rfl (E.rdr (i := 0) rfl) ?_ ?_ ?_ ?_ (fun A5 c5 => ?_); (focus ((first | rfl | (simp; done) | omega))); (focus ((first | exact E.ints_one | exact E.u8s_one | (simp [Value.oneCell']; done)))); (focus ((unfold maxLen; omega))); (focus ((first | omega | (simp only [List.length_append, List.length_cons, List.length_nil] at *; omega) | (unfold maxLen at *; omega)))))
        all_goals (first | (refine E.AW.nil [0] rfl ?_) | (refine E.AW.nil [1] rfl ?_) | (refine E.AW.nil [2] rfl ?_) | (refine E.AW.nil [3] rfl ?_) | (refine E.AW.nil [4] rfl ?_) | (refine E.AW.nil [5] rfl ?_) | (refine E.AW.nil [6] rfl ?_) | (refine E.AW.nil [0] rfl ?_) | (refine E.AW.nil [0] rfl ?_))
        all_goals (refine E.AW.first 8 rfl (by kernel_rfl) (by kernel_rfl) (by kernel_rfl) rfl rfl rfl (E.PV.nilCheck rfl rfl) ?_)
        all_goals (refine E.AW.first 9 rfl (by kernel_rfl) (by kernel_rfl) (by kernel_rfl) rfl rfl rfl (E.PV.fieldAddr fa151_0 rfl rfl) ?_)
        all_goals (refine E.AW.one 10 (by kernel_rfl) rfl ?_)
        all_goals (refine E.OW.store (i := 3) in149.size rfl rfl rfl rfl rfl rfl rfl rfl rfl ?_)
        all_goals (first | (refine E.AW.nil [0] rfl ?_) | (refine E.AW.nil [1] rfl ?_) | (refine E.AW.nil [2] rfl ?_) | (refine E.AW.nil [3] rfl ?_) | (refine E.AW.nil [4] rfl ?_) | (refine E.AW.nil [5] rfl ?_) | (refine E.AW.nil [6] rfl ?_) | (refine E.AW.nil [0] rfl ?_) | (refine E.AW.nil [0] rfl ?_))
        all_goals (refine E.AW.conv (E.cv_quein (q := q ++ [(p, k)]) 0 0 rfl rfl (by simp) (E.qI_snoc q p k).symm) ?_)
        all_goals (refine E.AW.done (by kernel_rfl) ?_))
  all_goals (
    skip
    refine (E.KR.zero [0] Try.results129 rfl ?_).1
    exact rfl)

set_option maxRecDepth 100000 in
theorem pop_ok (B : Nat) (q : List (Nat × Nat)) (h : Nat) (S : Nat → Prop) (w0 : World) (hS : (E.HP.que B q h).sem S w0) (hb : ∀ k, S k → k < w0.heap.size) (hq : q.length ≤ 2000) :
    Calls Try.prog 130 #[.pointer (some ⟨B, 0, none⟩)] w0 (E.Post w0 (E.Fm w0 S) fun v Hn => ∃ (b : Bool) (x1 x2 : Int) (h2 : Nat), v = .tuple #[.agg #[.int .i64 x1, .int .i64 x2], .bool b] ∧ Hn = [E.HP.que B (q) (h2)] ∧ ((b = true ∧ h < q.length ∧ x1 = ((Bf.at_ q h).1 : Int) ∧ x2 = ((Bf.at_ q h).2 : Int) ∧ h2 = h + 1) ∨ (b = false ∧ q.length ≤ h ∧ h2 = h))) := by
  have hqi := E.qI_length q
  refine E.calls_of (vs := [.pointer (some ⟨B, 0, none⟩)]) (H := [E.HP.que B (q) (h)]) Try.func130 Try.ntmps130 rfl rfl (E.HA.startM hS hb) ?_
  refine E.CW.seq ?_
  refine E.CW.queout 0 rfl (fun AQ cQ => ?_)
  refine E.CW.region ?_
  refine E.OW.alloc (in154.zr) rfl rfl rfl rfl rfl (fun B1 => ?_)
  refine E.OW.pure rfl rfl rfl (E.PV.assign rfl rfl) ?_
  refine E.OW.nil ?_
  refine E.then_n ?_
  refine E.CW.seq ?_
  refine E.CW.region ?_
  refine E.OW.alloc (in154.zr) rfl rfl rfl rfl rfl (fun B2 => ?_)
  refine E.OW.nil ?_
  refine E.then_n ?_
  refine E.CW.seq ?_
  refine E.CW.seq ?_
  refine E.CW.draw mixed (by kernel_rfl) ?_
  refine E.QW.pure rfl rfl rfl (E.PV.move rfl rfl) ?_
  refine E.QW.pure rfl rfl rfl (E.PV.nilCheck rfl rfl) ?_
  refine E.QW.pure rfl rfl rfl (E.PV.fieldAddr fa151_1 rfl rfl) ?_
  refine E.QW.pure rfl rfl rfl (E.PV.load (i := 2) na3 rfl rfl rfl rfl) ?_
  refine E.QW.pure rfl rfl rfl (E.PV.move rfl rfl) ?_
  refine E.QW.pure rfl rfl rfl (E.PV.nilCheck rfl rfl) ?_
  refine E.QW.pure rfl rfl rfl (E.PV.fieldAddr fa151_0 rfl rfl) ?_
  refine E.QW.pure rfl rfl rfl (E.PV.load (i := 2) na149 rfl rfl rfl rfl) ?_
  refine E.QW.pure rfl rfl rfl (E.PV.len Try.underlying149 rfl rfl) ?_
  refine E.QW.pure rfl rfl rfl (E.PV.geq rfl rfl rfl) ?_
  refine E.QW.nil ?_
  refine E.then_n ?_
  refine E.CW.cond rfl (fun hc => ?_) (fun hc => ?_)
  · simp only [E.b0, E.b1, E.b2, E.b3, E.b4, E.b5, E.b6, E.b7, E.b8, E.b9, E.b10, E.b11, E.b12, E.b13, E.b14, E.b15, E.b16, E.b17, E.b18, E.b19, E.b20, reduceCtorEq] at hc
    all_goals (
      refine E.CW.seq ?_
      refine E.CW.region ?_
      refine E.OW.pure rfl rfl rfl (E.PV.loads (i := 0) is154 rfl rfl rfl rfl) ?_
      refine E.OW.store (i := 1) in154.size rfl rfl rfl rfl rfl rfl rfl rfl rfl ?_
      refine E.OW.pure rfl rfl rfl (E.PV.assign rfl rfl) ?_
      refine E.OW.cvt (E.cv_quein (q := q) (h := h) 2 2 rfl rfl rfl rfl) ?_
      refine E.OW.nil ?_
      refine E.then_n ?_
      refine E.CW.ret ?_
      refine E.then_ret ?_
      refine E.KR.rv2 [0] Try.results130 (E.rv.cell is154 rfl (E.sli 1 rfl) rfl) rfl rfl ?_
      exact ⟨false, 0, 0, h, rfl, rfl, .inr ⟨rfl, by omega, rfl⟩⟩)
  · simp only [E.b0, E.b1, E.b2, E.b3, E.b4, E.b5, E.b6, E.b7, E.b8, E.b9, E.b10, E.b11, E.b12, E.b13, E.b14, E.b15, E.b16, E.b17, E.b18, E.b19, E.b20, reduceCtorEq] at hc
    all_goals (
      refine E.CW.skip ?_
      refine E.then_n ?_
      refine E.CW.seq ?_
      refine E.CW.drawx mixed [2, 2] rfl ?_
      all_goals (refine E.AW.first 0 rfl (by kernel_rfl) (by kernel_rfl) (by kernel_rfl) rfl rfl rfl (E.PV.move rfl rfl) ?_)
      all_goals (refine E.AW.first 1 rfl (by kernel_rfl) (by kernel_rfl) (by kernel_rfl) rfl rfl rfl (E.PV.nilCheck rfl rfl) ?_)
      all_goals (refine E.AW.first 2 rfl (by kernel_rfl) (by kernel_rfl) (by kernel_rfl) rfl rfl rfl (E.PV.fieldAddr fa151_0 rfl rfl) ?_)
      all_goals (refine E.AW.first 3 rfl (by kernel_rfl) (by kernel_rfl) (by kernel_rfl) rfl rfl rfl (E.PV.load (i := 0) na149 rfl rfl rfl rfl) ?_)
      all_goals (refine E.AW.first 4 rfl (by kernel_rfl) (by kernel_rfl) (by kernel_rfl) rfl rfl rfl (E.PV.move rfl rfl) ?_)
      all_goals (refine E.AW.first 5 rfl (by kernel_rfl) (by kernel_rfl) (by kernel_rfl) rfl rfl rfl (E.PV.nilCheck rfl rfl) ?_)
      all_goals (refine E.AW.first 6 rfl (by kernel_rfl) (by kernel_rfl) (by kernel_rfl) rfl rfl rfl (E.PV.fieldAddr fa151_1 rfl rfl) ?_)
      all_goals (refine E.AW.first 7 rfl (by kernel_rfl) (by kernel_rfl) (by kernel_rfl) rfl rfl rfl (E.PV.load (i := 0) na3 rfl rfl rfl rfl) ?_)
      all_goals (refine E.AW.first 8 rfl (by kernel_rfl) (by kernel_rfl) (by kernel_rfl) rfl rfl rfl (E.PV.indexAddr (E.rdr (i := 1) rfl) Try.underlying149 in154 rfl rfl rfl rfl ?_ ?_ (by decide)) ?_; (focus (first | (simp; done) | (simp; omega))); (focus (omega)))
      all_goals (refine E.AW.first 9 rfl (by kernel_rfl) (by kernel_rfl) (by kernel_rfl) rfl rfl rfl (E.PV.load_pair (E.rdr (i := 1) rfl) is154 rfl rfl ?_) ?_; (focus (omega)))
      all_goals (refine E.AW.one 10 (by kernel_rfl) rfl ?_)
      all_goals (refine E.OW.alloc (in154.zr) rfl rfl rfl rfl rfl (fun B3 => ?_))
      all_goals (first | (refine E.AW.nil [2, 2] rfl ?_) | (refine E.AW.nil [3, 3] rfl ?_) | (refine E.AW.nil [4, 4] rfl ?_) | (refine E.AW.nil [5, 5] rfl ?_) | (refine E.AW.nil [6, 6] rfl ?_) | (refine E.AW.nil [7, 7] rfl ?_) | (refine E.AW.nil [8, 8] rfl ?_) | (refine E.AW.nil [1, 1] rfl ?_) | (refine E.AW.nil [0, 0] rfl ?_))
      all_goals (refine E.AW.one 11 (by kernel_rfl) rfl ?_)
      all_goals (refine E.OW.store (i := 0) in154.size rfl rfl rfl rfl rfl rfl rfl rfl rfl ?_)
      all_goals (first | (refine E.AW.nil [2, 2] rfl ?_) | (refine E.AW.nil [3, 3] rfl ?_) | (refine E.AW.nil [4, 4] rfl ?_) | (refine E.AW.nil [5, 5] rfl ?_) | (refine E.AW.nil [6, 6] rfl ?_) | (refine E.AW.nil [7, 7] rfl ?_) | (refine E.AW.nil [8, 8] rfl ?_) | (refine E.AW.nil [1, 1] rfl ?_) | (refine E.AW.nil [0, 0] rfl ?_))
      all_goals (refine E.AW.done (by kernel_rfl) ?_)
      all_goals (
        skip
        refine E.then_n ?_
        refine E.CW.seq ?_
        refine E.CW.region ?_
        refine E.OW.pure rfl rfl rfl (E.PV.move rfl rfl) ?_
        refine E.OW.pure rfl rfl rfl (E.PV.nilCheck rfl rfl) ?_
        refine E.OW.pure rfl rfl rfl (E.PV.fieldAddr fa151_1 rfl rfl) ?_
        refine E.OW.pure rfl rfl rfl (E.PV.load (i := 3) na3 rfl rfl rfl rfl) ?_
        refine E.OW.pure rfl rfl rfl (E.PV.add_i64 rfl rfl rfl ?_) ?_; (focus (omega))
        refine E.OW.pure rfl rfl rfl (E.PV.nilCheck rfl rfl) ?_
        refine E.OW.pure rfl rfl rfl (E.PV.fieldAddr fa151_1 rfl rfl) ?_
        refine E.OW.store (i := 3) in3.size rfl rfl rfl rfl rfl rfl rfl rfl rfl ?_
        refine E.OW.nil ?_
        refine E.then_n ?_
        refine E.CW.seq ?_
        refine E.CW.region ?_
        refine E.OW.pure rfl rfl rfl (E.PV.loads (i := 1) is154 rfl rfl rfl rfl) ?_
        refine E.OW.store (i := 3) in154.size rfl rfl rfl rfl rfl rfl rfl rfl rfl ?_
        refine E.OW.pure rfl rfl rfl (E.PV.assign rfl rfl) ?_
        refine E.OW.cvt (E.cv_quein (q := q) (h := h + 1) 1 3 rfl rfl rfl rfl) ?_
        refine E.OW.nil ?_
        refine E.then_n ?_
        refine E.CW.ret ?_
        refine E.KR.rv2 [0] Try.results130 (E.rv.cell is154 rfl (E.sli 1 rfl) rfl) rfl rfl ?_
        exact ⟨true, _, _, h + 1, rfl, rfl, .inl ⟨rfl, by omega, congrArg Prod.fst (E.qI_get q h), congrArg Prod.snd (E.qI_get q h), rfl⟩⟩))
end Go.Proofs.Ytflkbabhbnmajaa

/- Closed facts on the program (printed by gen.py). -/
namespace Go.Proofs.Ytflkbabhbnmajaa
open Go Go.RowKit
set_option linter.unusedSimpArgs false
set_option linter.unusedVariables false
theorem bld154_0_1 (x0 : Int) (x1 : Int) (w : World) : (Instr.build 154 #[(0, .int .i64 x0), (1, .int .i64 x1)]).run Try.prog w = .ok (.agg #[.int .i64 x0, .int .i64 x1]) w := by kernel_rfl
theorem fa154_0 : E.FA Try.prog 154 0 0 := fun _ _ _ => by kernel_rfl
theorem fa154_1 : E.FA Try.prog 154 1 1 := fun _ _ _ => by kernel_rfl
theorem fa93_0 : E.FA Try.prog 93 0 0 := fun _ _ _ => by kernel_rfl
theorem fa93_1 : E.FA Try.prog 93 1 1 := fun _ _ _ => by kernel_rfl
theorem fa93_2 : E.FA Try.prog 93 2 2 := fun _ _ _ => by kernel_rfl
theorem fa93_3 : E.FA Try.prog 93 3 3 := fun _ _ _ => by kernel_rfl
theorem fa93_4 : E.FA Try.prog 93 4 4 := fun _ _ _ => by kernel_rfl
theorem in151 : E.In Try.prog 151 (.agg #[.slice none 0 0, .int .i64 0]) 2 32 := by unfold E.In; kernel_rfl
theorem in4 : E.In Try.prog 4 (.bool false) 1 1 := by unfold E.In; kernel_rfl
theorem in89 : E.In Try.prog 89 (.slice none 0 0) 1 24 := by unfold E.In; kernel_rfl
theorem na4 : E.Na Try.prog 4 := fun _ => by kernel_rfl
theorem na87 : E.Na Try.prog 87 := fun _ => by kernel_rfl
theorem na89 : E.Na Try.prog 89 := fun _ => by kernel_rfl
theorem na90 : E.Na Try.prog 90 := fun _ => by kernel_rfl
theorem na91 : E.Na Try.prog 91 := fun _ => by kernel_rfl
theorem nm128 : E.Nm Try.prog 128 := ⟨Try.f128, Try.func128, rfl, by kernel_rfl⟩
theorem nm129 : E.Nm Try.prog 129 := ⟨Try.f129, Try.func129, rfl, by kernel_rfl⟩
theorem nm130 : E.Nm Try.prog 130 := ⟨Try.f130, Try.func130, rfl, by kernel_rfl⟩
end Go.Proofs.Ytflkbabhbnmajaa

/- Walks (printed by gen.py). -/
namespace Go.Proofs.Ytflkbabhbnmajaa
open Go Go.RowKit
set_option linter.unusedSimpArgs false
set_option linter.unusedVariables false

set_option maxRecDepth 100000 in
theorem see_ok (y : E.Pl) (D : Bf.DD) (Bx B h p k : Nat) (q : List (Nat × Nat)) (m : Int) (S : Nat → Prop) (w0 : World) (hS : (E.HP.bag [E.HP.que B q h, E.HP.dist y D]).sem S w0) (hb : ∀ k, S k → k < w0.heap.size) (hr : y.rd0 w0 (E.Fm w0 S)) (hbx : E.Rd w0 (E.Fm w0 S) (some ⟨Bx, 0, none⟩) [y.v]) (hk : k < y.x.K) (hp : p < y.x.n) (hq : q.length ≤ 2000) :
    Calls Try.prog 128 #[.int .i64 (p : Int), .int .i64 (k : Int), .int .i64 m, .pointer (some ⟨Bx, 0, none⟩), .pointer (some ⟨B, 0, none⟩)] w0 (E.Post w0 (E.Fm w0 S) fun v Hn => Hn = [E.HP.que B (Bf.seeQ y.x D q p k) h, E.HP.dist y (Bf.seeD D p k m)]) := by
  refine E.calls_of (vs := [.int .i64 (p : Int), .int .i64 (k : Int), .int .i64 m, .pointer (some ⟨Bx, 0, none⟩), .pointer (some ⟨B, 0, none⟩)]) (H := [E.HP.bag [E.HP.que B q h, E.HP.dist y D]]) Try.func128 Try.ntmps128 rfl rfl (E.HA.startM hS hb) ?_
  refine E.CW.seq ?_
  refine E.CW.open 0 rfl ?_
  refine E.CW.region ?_
  refine E.OW.pure rfl rfl rfl (E.PV.load_at (E.rdc hbx) na87 rfl rfl rfl) ?_
  refine E.OW.pure rfl rfl rfl (E.PV.nilCheck rfl rfl) ?_
  refine E.OW.pure rfl rfl rfl (E.PV.fieldAddr fa93_3 rfl rfl) ?_
  refine E.OW.pure rfl rfl rfl (E.PV.load_at (E.p_b (E.sr0 hr)) na91 rfl rfl rfl) ?_
  refine E.OW.pure rfl rfl rfl (E.PV.move rfl rfl) ?_
  refine E.OW.pure rfl rfl rfl (E.PV.indexAddr1 (E.p_d (E.sr0 hr)) Try.underlying91 in31 rfl rfl rfl rfl ?_ ?_) ?_; (focus (first | (simp; done) | (simp; omega))); (focus (omega))
  refine E.OW.pure rfl rfl rfl (E.PV.load_sc (E.p_d (E.sr0 hr)) na31 rfl rfl ?_) ?_; (focus (omega))
  refine E.OW.pure rfl rfl rfl (E.PV.move rfl rfl) ?_
  refine E.OW.pure rfl rfl rfl (E.PV.indexAddr1 (E.p_dr (E.srdc (i := 1) rfl) ?_) Try.underlying31 in3 rfl rfl rfl rfl ?_ ?_) ?_; (focus (omega)); (focus (first | (simp; done) | (simp; omega))); (focus (omega))
  refine E.OW.pure rfl rfl rfl (E.PV.load_ii (E.p_dr (E.srdc (i := 1) rfl) ?_) na3 rfl rfl ?_) ?_; (focus (omega)); (focus (omega))
  refine E.OW.pure rfl rfl rfl (E.PV.lss rfl rfl rfl) ?_
  refine E.OW.nil ?_
  refine E.then_n ?_
  refine E.CW.cond rfl (fun hc => ?_) (fun hc => ?_)
  · simp only [E.b0, E.b1, E.b2, E.b3, E.b4, E.b5, E.b6, E.b7, E.b8, E.b9, E.b10, E.b11, E.b12, E.b13, E.b14, E.b15, E.b16, E.b17, E.b18, E.b19, E.b20, reduceCtorEq] at hc
    all_goals (
      refine E.CW.seq ?_
      refine E.CW.region ?_
      refine E.OW.pure rfl rfl rfl (E.PV.load_at (E.rdc hbx) na87 rfl rfl rfl) ?_
      refine E.OW.pure rfl rfl rfl (E.PV.nilCheck rfl rfl) ?_
      refine E.OW.pure rfl rfl rfl (E.PV.fieldAddr fa93_3 rfl rfl) ?_
      refine E.OW.pure rfl rfl rfl (E.PV.load_at (E.p_b (E.sr0 hr)) na91 rfl rfl rfl) ?_
      refine E.OW.pure rfl rfl rfl (E.PV.move rfl rfl) ?_
      refine E.OW.pure rfl rfl rfl (E.PV.indexAddr1 (E.p_d (E.sr0 hr)) Try.underlying91 in31 rfl rfl rfl rfl ?_ ?_) ?_; (focus (first | (simp; done) | (simp; omega))); (focus (omega))
      refine E.OW.pure rfl rfl rfl (E.PV.load_sc (E.p_d (E.sr0 hr)) na31 rfl rfl ?_) ?_; (focus (omega))
      refine E.OW.pure rfl rfl rfl (E.PV.move rfl rfl) ?_
      refine E.OW.pure rfl rfl rfl (E.PV.move rfl rfl) ?_
      refine E.OW.pure rfl rfl rfl (E.PV.indexAddr1 (E.p_dr (E.srdc (i := 1) rfl) ?_) Try.underlying31 in3 rfl rfl rfl rfl ?_ ?_) ?_; (focus (omega)); (focus (first | (simp; done) | (simp; omega))); (focus (omega))
      refine E.OW.store_rows (i := 1) in3.size rfl rfl rfl rfl rfl rfl ?_ ?_ ?_; (focus (omega)); (focus (omega))
      refine E.OW.nil ?_
      refine E.then_n ?_
      refine E.CW.seq ?_
      refine E.CW.conv (E.cv_chunk 0 (E.HP.dist y (Bf.upd D k p m)) rfl (E.dist_upd y D k p m)) ?_
      refine E.CW.sels [1, 0] rfl ?_
      refine E.CW.region ?_
      refine E.OW.pure rfl rfl rfl (E.PV.load_at (E.rdc hbx) na87 rfl rfl rfl) ?_
      refine E.OW.pure rfl rfl rfl (E.PV.nilCheck rfl rfl) ?_
      refine E.OW.pure rfl rfl rfl (E.PV.fieldAddr fa93_2 rfl rfl) ?_
      refine E.OW.pure rfl rfl rfl (E.PV.load_at (E.p_b (E.sr0 hr)) na90 rfl rfl rfl) ?_
      refine E.OW.pure rfl rfl rfl (E.PV.move rfl rfl) ?_
      refine E.OW.pure rfl rfl rfl (E.PV.indexAddr1 (E.p_a (E.sr0 hr)) Try.underlying90 in89 rfl rfl rfl rfl ?_ ?_) ?_; (focus (first | (simp; done) | (simp; omega))); (focus (omega))
      refine E.OW.pure rfl rfl rfl (E.PV.load_sc (E.p_a (E.sr0 hr)) na89 rfl rfl ?_) ?_; (focus (omega))
      refine E.OW.pure rfl rfl rfl (E.PV.move rfl rfl) ?_
      refine E.OW.pure rfl rfl rfl (E.PV.indexAddr1 (E.p_ar (E.sr0 hr) ?_) Try.underlying89 in4 rfl rfl rfl rfl ?_ ?_) ?_; (focus (omega)); (focus (first | (simp; done) | (simp; omega))); (focus (omega))
      refine E.OW.pure rfl rfl rfl (E.PV.load_bl (E.p_ar (E.sr0 hr) ?_) na4 rfl rfl ?_) ?_; (focus (omega)); (focus (omega))
      refine E.OW.nil ?_
      refine E.then_n ?_
      refine E.CW.cond rfl (fun hc => ?_) (fun hc => ?_)
      · skip
        all_goals (
          refine E.CW.region ?_
          refine E.OW.pure rfl rfl rfl (E.PV.move rfl rfl) ?_
          refine E.OW.pure rfl rfl rfl (E.PV.move rfl rfl) ?_
          refine E.OW.pure rfl rfl rfl (E.PV.build (ps := [(0, .tmp 39), (1, .tmp 40)]) rfl rfl (fun w => bld154_0_1 _ _ w)) ?_
          (refine E.OW.callM nm129 rfl rfl rfl rfl rfl rfl _ 0 rfl (fun w S hw hs hb hc => push_ok _ _ _ _ _ S w hs (fun k hk => (hb k hk).1) ?_) ?_; (focus (assumption)); rintro _ _ rfl)
          refine E.OW.nil ?_
          refine (E.KR.zero [0, 0] Try.results128 rfl ?_).1
          by_cases hd : D k p < 0
          · by_cases ha : y.x.al k p = true
            · have e := Bf.see_on (x := y.x) (q := q) (m := m) hd ha
              rw [e.1, e.2]; all_goals first | rfl | (exfalso; simp_all; done) | (exfalso; omega)
            · have e := Bf.see_off (x := y.x) (q := q) (m := m) hd (Bool.eq_false_iff.2 ha)
              rw [e.1, e.2]; all_goals first | rfl | (exfalso; simp_all; done) | (exfalso; omega)
          · have e := Bf.see_no (x := y.x) (q := q) (m := m) hd
            rw [e.1, e.2]; all_goals first | rfl | (exfalso; omega))
      · skip
        all_goals (
          refine E.CW.skip ?_
          refine (E.KR.zero [0, 0] Try.results128 rfl ?_).1
          by_cases hd : D k p < 0
          · by_cases ha : y.x.al k p = true
            · have e := Bf.see_on (x := y.x) (q := q) (m := m) hd ha
              rw [e.1, e.2]; all_goals first | rfl | (exfalso; simp_all; done) | (exfalso; omega)
            · have e := Bf.see_off (x := y.x) (q := q) (m := m) hd (Bool.eq_false_iff.2 ha)
              rw [e.1, e.2]; all_goals first | rfl | (exfalso; simp_all; done) | (exfalso; omega)
          · have e := Bf.see_no (x := y.x) (q := q) (m := m) hd
            rw [e.1, e.2]; all_goals first | rfl | (exfalso; omega)))
  · simp only [E.b0, E.b1, E.b2, E.b3, E.b4, E.b5, E.b6, E.b7, E.b8, E.b9, E.b10, E.b11, E.b12, E.b13, E.b14, E.b15, E.b16, E.b17, E.b18, E.b19, E.b20, reduceCtorEq] at hc
    all_goals (
      refine E.CW.skip ?_
      refine (E.KR.zero [0, 0] Try.results128 rfl ?_).1
      by_cases hd : D k p < 0
      · by_cases ha : y.x.al k p = true
        · have e := Bf.see_on (x := y.x) (q := q) (m := m) hd ha
          rw [e.1, e.2]; all_goals first | rfl | (exfalso; simp_all; done) | (exfalso; omega)
        · have e := Bf.see_off (x := y.x) (q := q) (m := m) hd (Bool.eq_false_iff.2 ha)
          rw [e.1, e.2]; all_goals first | rfl | (exfalso; simp_all; done) | (exfalso; omega)
      · have e := Bf.see_no (x := y.x) (q := q) (m := m) hd
        rw [e.1, e.2]; all_goals first | rfl | (exfalso; omega))

set_option maxRecDepth 100000 in
theorem fill_ok (y : E.Pl) (S : Nat → Prop) (w0 : World) (hS : (E.HP.dist y fun _ _ => -1).sem S w0) (hb : ∀ k, S k → k < w0.heap.size) (hr : y.rd0 w0 (E.Fm w0 S)) (hok : y.x.ok) (hn : y.x.n ≤ 64) (hK : y.x.K ≤ 16) (hnl : ∀ p, (y.x.nr p).length ≤ 5) :
    Calls Try.prog 103 #[y.v, .int .i64 (y.x.goal : Int)] w0 (E.Post w0 (E.Fm w0 S) fun v Hn => ∃ D : Bf.DD, Hn = [E.HP.dist y D] ∧ ∀ k p, k < y.x.K → p < y.x.n → y.x.cell p = true → Bf.Ar y.x k p (D k p)) := by
  obtain ⟨M, hM⟩ : ∃ M, y.x.n * y.x.K = M := ⟨_, rfl⟩
  have hM2 : M ≤ 64 * 16 := hM ▸ Nat.mul_le_mul hn hK
  have hK0 := hok.K0
  refine E.calls_of (vs := [y.v, .int .i64 (y.x.goal : Int)]) (H := [E.HP.dist y fun _ _ => -1]) Try.func103 Try.ntmps103 rfl rfl (E.HA.startM hS hb) ?_
  refine E.CW.seq ?_
  refine E.CW.region ?_
  refine E.OW.box rfl rfl rfl rfl rfl rfl (fun B1 => ?_)
  refine E.OW.nil ?_
  refine E.then_n ?_
  refine E.CW.seq ?_
  refine E.CW.region ?_
  refine E.OW.alloc (in151.zr) rfl rfl rfl rfl rfl (fun B2 => ?_)
  refine E.OW.nil ?_
  refine E.then_n ?_
  refine E.CW.seq ?_
  refine E.CW.nilrow 154 2 ?_
  refine E.CW.conv (E.cv_quein (q := []) (h := 0) 1 0 rfl rfl rfl rfl) ?_
  refine E.CW.region ?_
  refine E.OW.pure rfl rfl rfl (E.PV.makeFunc (f := .func 128) (fs := []) (cs := [.tmp 2, .tmp 4]) rfl rfl rfl) ?_
  refine E.OW.pure rfl rfl rfl (E.PV.assign rfl rfl) ?_
  refine E.OW.nil ?_
  refine E.then_n ?_
  refine E.CW.seq ?_
  refine E.CW.seq ?_
  refine E.CW.region ?_
  refine E.OW.pure rfl rfl rfl (E.PV.load (i := 1) na87 rfl rfl rfl rfl) ?_
  refine E.OW.pure rfl rfl rfl (E.PV.nilCheck rfl rfl) ?_
  refine E.OW.pure rfl rfl rfl (E.PV.fieldAddr fa93_0 rfl rfl) ?_
  refine E.OW.pure rfl rfl rfl (E.PV.load_at (E.p_b (E.sr0 hr)) na3 rfl rfl rfl) ?_
  refine E.OW.pure rfl rfl rfl (E.PV.move rfl rfl) ?_
  refine E.OW.nil ?_
  refine E.then_n ?_
  refine E.CW.block ?_
  refine E.CW.sels [0, 1, 0] rfl ?_
  refine E.CW.loopk [1, 2, 4, 5, 16] 2 rfl rfl (fun mm mods Hm => ∃ j : Nat, ∃ D : Bf.DD, ∃ q : List (Nat × Nat), mm = y.x.K - j ∧ mods = [(17, .int .i64 j)] ∧ Hm = [E.HP.que B2 q 0, E.HP.dist y D] ∧ (j ≤ y.x.K ∧ Bf.Start y.x D q j)) (y.x.K) ?_ ?_
  · exact ⟨[(17, _)], (by repeat (first | exact E.cov_nil | refine ⟨rfl, ?_⟩)), 0, _, _, rfl, rfl, rfl, by omega, Bf.Start.zero y.x fun _ _ => rfl⟩
  · rintro _ _ _ ⟨j, D, q, rfl, rfl, rfl, hj, hI⟩
    refine E.CW.seq ?_
    refine E.CW.region ?_
    refine E.OW.pure rfl rfl rfl (E.PV.lss rfl rfl rfl) ?_
    refine E.OW.nil ?_
    refine E.then_n ?_
    refine E.CW.seq ?_
    refine E.CW.cond rfl (fun hc => ?_) (fun hc => ?_)
    · simp only [E.b0, E.b1, E.b2, E.b3, E.b4, E.b5, E.b6, E.b7, E.b8, E.b9, E.b10, E.b11, E.b12, E.b13, E.b14, E.b15, E.b16, E.b17, E.b18, E.b19, E.b20, reduceCtorEq] at hc
      all_goals (
        refine E.CW.skip ?_
        refine E.then_n ?_
        refine E.CW.seq ?_
        refine E.CW.block ?_
        refine E.CW.seq ?_
        refine E.CW.region ?_
        refine E.OW.pure rfl rfl rfl (E.PV.move rfl rfl) ?_
        refine E.OW.pure rfl rfl rfl (E.PV.assign rfl rfl) ?_
        refine E.OW.nil ?_
        refine E.then_n ?_
        have hql := Bf.len_le hI.b
        refine E.CW.gather [0, 0, 0] 2 rfl rfl ?_
        refine E.CW.region ?_
        refine E.OW.pure rfl rfl rfl (E.PV.move rfl rfl) ?_
        refine E.OW.pure rfl rfl rfl (E.PV.move rfl rfl) ?_
        refine E.OW.pure rfl rfl rfl (E.PV.move rfl rfl) ?_
        refine E.OW.callcM nm128 rfl rfl rfl rfl rfl rfl _ 0 rfl (fun w S2 hw hs hb2 hc => see_ok y D B1 B2 0 y.x.goal j q 0 S2 w hs (fun k hk => (hb2 k hk).1) (hw.rd0M hr hb2) (E.blk_in hc (i := 0) rfl) (by omega) hok.glt (by omega)) ?_; rintro _ _ rfl
        refine E.OW.nil ?_
        refine E.blk_n ?_
        refine E.then_n ?_
        refine E.CW.region ?_
        refine E.OW.pure rfl rfl rfl (E.PV.add_i64 rfl rfl rfl ?_) ?_; (focus (omega))
        refine E.OW.pure rfl rfl rfl (E.PV.move rfl rfl) ?_
        refine E.OW.nil ?_
        refine E.then_nf ?_
        refine ⟨_, [(17, _)], [0, 0, 0], [_, _], ?_, by repeat (first | exact E.cov_nil | refine ⟨rfl, ?_⟩), rfl, j + 1, _, _, rfl, rfl, rfl, by omega, hI.see hok (by omega)⟩
        omega)
    · simp only [E.b0, E.b1, E.b2, E.b3, E.b4, E.b5, E.b6, E.b7, E.b8, E.b9, E.b10, E.b11, E.b12, E.b13, E.b14, E.b15, E.b16, E.b17, E.b18, E.b19, E.b20, reduceCtorEq] at hc
      all_goals (
        refine E.CW.exit ?_
        refine E.then_x ?_
        refine E.then_x ?_
        refine E.blk_eq ?_
        refine E.then_n ?_
        refine E.CW.block ?_
        refine E.CW.loopk [2, 4, 5] 2 rfl rfl (fun mm mods Hm => ∃ h : Nat, ∃ D : Bf.DD, ∃ q : List (Nat × Nat), mm = M - h ∧ mods = [] ∧ Hm = [E.HP.que B2 q h, E.HP.dist y D] ∧ (h ≤ q.length ∧ Bf.Base y.x D q h ∧ ∀ k, k < y.x.K → D k y.x.goal = 0)) (M) ?_ ?_
        · exact ⟨[], (by repeat (first | exact E.cov_nil | refine ⟨rfl, ?_⟩)), 0, _, _, rfl, rfl, rfl, by omega, hI.b, fun k hk => hI.g k (by omega)⟩
        · rintro _ _ _ ⟨h, D, q, rfl, rfl, rfl, hhq, hB, hg⟩
          have hql := Bf.len_le hB
          rw [hM] at hql
          refine E.CW.block ?_
          refine E.CW.seq ?_
          refine E.CW.region ?_
          (refine E.OW.callM nm130 rfl rfl rfl rfl rfl rfl _ 0 rfl (fun w S hw hs hb hc => pop_ok _ _ _ S w hs (fun k hk => (hb k hk).1) ?_) ?_; (focus (omega)); rintro _ _ ⟨bP, xa, xb, hP, rfl, rfl, hpop⟩)
          refine E.OW.pure rfl rfl rfl (E.PV.move rfl rfl) ?_
          refine E.OW.pure rfl rfl rfl (E.PV.extract rfl rfl rfl) ?_
          refine E.OW.pure rfl rfl rfl (E.PV.extract rfl rfl rfl) ?_
          refine E.OW.alloc (in154.zr) rfl rfl rfl rfl rfl (fun B3 => ?_)
          refine E.OW.store (i := 0) in154.size rfl rfl rfl rfl rfl rfl rfl rfl rfl ?_
          refine E.OW.pure rfl rfl rfl (E.PV.assign rfl rfl) ?_
          refine E.OW.nil ?_
          refine E.then_n ?_
          refine E.CW.seq ?_
          refine E.CW.seq ?_
          refine E.CW.region ?_
          refine E.OW.pure rfl rfl rfl (E.PV.move rfl rfl) ?_
          refine E.OW.pure rfl rfl rfl (E.PV.not rfl rfl) ?_
          refine E.OW.nil ?_
          refine E.then_n ?_
          refine E.CW.cond rfl (fun hc => ?_) (fun hc => ?_)
          · simp only [E.b0, E.b1, E.b2, E.b3, E.b4, E.b5, E.b6, E.b7, E.b8, E.b9, E.b10, E.b11, E.b12, E.b13, E.b14, E.b15, E.b16, E.b17, E.b18, E.b19, E.b20, reduceCtorEq] at hc
            all_goals (
              refine E.CW.ret ?_
              refine E.then_ret ?_
              refine E.blk_ret ?_
              refine E.then_ret ?_
              refine E.blk_ret ?_
              refine (E.KR.zero [2] Try.results103 rfl ?_).2
              rcases hpop with ⟨hb1, _, _, _, _⟩ | ⟨_, hh, _⟩
              · exfalso; simp_all
              obtain rfl : h = q.length := by omega
              exact ⟨_, rfl, fun k p hk hp hc => hB.ar hok hg hk hp hc⟩)
          · simp only [E.b0, E.b1, E.b2, E.b3, E.b4, E.b5, E.b6, E.b7, E.b8, E.b9, E.b10, E.b11, E.b12, E.b13, E.b14, E.b15, E.b16, E.b17, E.b18, E.b19, E.b20, reduceCtorEq] at hc
            all_goals (
              refine E.CW.skip ?_
              refine E.then_n ?_
              refine E.CW.seq ?_
              rcases hpop with ⟨_, hhl, rfl, rfl, rfl⟩ | ⟨hb1, _, _⟩
              rotate_left
              · exfalso; simp_all
              obtain ⟨s, hs⟩ : ∃ s, Bf.at_ q h = s := ⟨_, rfl⟩
              obtain ⟨hs1, hs2, hs3, hs4⟩ := hB.mem _ (Bf.at_mem hhl)
              have hsd := hB.bd _ _ hs2 hs1
              rw [hs] at hs1 hs2 hs3 hs4 hsd ⊢
              refine E.CW.draw mixed (by kernel_rfl) ?_
              refine E.QW.pure rfl rfl rfl (E.PV.fieldAddr fa154_1 rfl rfl) ?_
              refine E.QW.pure rfl rfl rfl (E.PV.load (i := 0) na3 rfl rfl rfl rfl) ?_
              refine E.QW.pure rfl rfl rfl (E.PV.load (i := 3) na87 rfl rfl rfl rfl) ?_
              refine E.QW.pure rfl rfl rfl (E.PV.nilCheck rfl rfl) ?_
              refine E.QW.pure rfl rfl rfl (E.PV.fieldAddr fa93_0 rfl rfl) ?_
              refine E.QW.pure rfl rfl rfl (E.PV.load_at (E.p_b (E.sr0 hr)) na3 rfl rfl rfl) ?_
              refine E.QW.pure rfl rfl rfl (E.PV.add_i64 rfl rfl rfl ?_) ?_; (focus (omega))
              refine E.QW.pure rfl rfl rfl (E.PV.sub_i64 rfl rfl rfl ?_) ?_; (focus (omega))
              refine E.QW.pure rfl rfl rfl (E.PV.load (i := 3) na87 rfl rfl rfl rfl) ?_
              refine E.QW.pure rfl rfl rfl (E.PV.nilCheck rfl rfl) ?_
              refine E.QW.pure rfl rfl rfl (E.PV.fieldAddr fa93_0 rfl rfl) ?_
              refine E.QW.pure rfl rfl rfl (E.PV.load_at (E.p_b (E.sr0 hr)) na3 rfl rfl rfl) ?_
              refine E.QW.pure rfl rfl rfl (E.PV.rem_i64 rfl rfl rfl ?_ ?_) ?_; (focus (omega)); (focus (omega))
              refine E.QW.pure rfl rfl rfl (E.PV.assign rfl rfl) ?_
              refine E.QW.nil ?_
              refine E.then_n ?_
              refine E.CW.seq ?_
              refine E.CW.put 9 (.int .i64 ((Bf.bef y.x s.2 : Nat) : Int)) rfl (congrArg (Value.int .i64) (Bf.bef_int hok s.2)) ?_
              refine E.CW.draw mixed (by kernel_rfl) ?_
              refine E.QW.pure rfl rfl rfl (E.PV.load (i := 3) na87 rfl rfl rfl rfl) ?_
              refine E.QW.pure rfl rfl rfl (E.PV.nilCheck rfl rfl) ?_
              refine E.QW.pure rfl rfl rfl (E.PV.fieldAddr fa93_4 rfl rfl) ?_
              refine E.QW.pure rfl rfl rfl (E.PV.load_at (E.p_b (E.sr0 hr)) na91 rfl rfl rfl) ?_
              refine E.QW.pure rfl rfl rfl (E.PV.fieldAddr fa154_0 rfl rfl) ?_
              refine E.QW.pure rfl rfl rfl (E.PV.load (i := 0) na3 rfl rfl rfl rfl) ?_
              refine E.QW.pure rfl rfl rfl (E.PV.indexAddr1 (E.p_n (E.sr0 hr)) Try.underlying91 in31 rfl rfl rfl rfl ?_ ?_) ?_; (focus (first | (simp; done) | (simp; omega))); (focus (omega))
              refine E.QW.pure rfl rfl rfl (E.PV.load_sn (E.p_n (E.sr0 hr)) na31 rfl rfl ?_) ?_; (focus (omega))
              refine E.QW.pure rfl rfl rfl (E.PV.len Try.underlying31 rfl rfl) ?_
              refine E.QW.pure rfl rfl rfl (E.PV.move rfl rfl) ?_
              refine E.QW.nil ?_
              refine E.then_n ?_
              refine E.CW.block ?_
              refine E.CW.sels [1, 1, 0, 0] rfl ?_
              refine E.CW.loopk [2, 4, 5, 7, 9, 51, 52] 2 rfl rfl (fun mm mods Hm => ∃ i : Nat, ∃ D : Bf.DD, ∃ q : List (Nat × Nat), mm = (y.x.nr s.1).length - i ∧ mods = [(53, .int .i64 i)] ∧ Hm = [E.HP.que B2 q (h + 1), E.HP.dist y D] ∧ (i ≤ (y.x.nr s.1).length ∧ Bf.at_ q h = s ∧ Bf.Part y.x D q h i)) ((y.x.nr s.1).length) ?_ ?_
              · exact ⟨[(53, _)], (by repeat (first | exact E.cov_nil | refine ⟨rfl, ?_⟩)), 0, _, _, rfl, rfl, rfl, by omega, hs, hB.part hhl hg⟩
              · rintro _ _ _ ⟨i, D, q, rfl, rfl, rfl, hi, hat, hP⟩
                have hnl2 := hnl s.1
                have hql2 := Bf.len_le hP.b
                rw [hM] at hql2
                have hsd2 := hP.b.bd _ _ hs2 hs1
                have hsl := (hP.b.mem _ (Bf.at_mem hP.hl)).2.2.2
                rw [hat] at hsl
                refine E.CW.seq ?_
                refine E.CW.region ?_
                refine E.OW.pure rfl rfl rfl (E.PV.lss rfl rfl rfl) ?_
                refine E.OW.nil ?_
                refine E.then_n ?_
                refine E.CW.seq ?_
                refine E.CW.cond rfl (fun hc => ?_) (fun hc => ?_)
                · simp only [E.b0, E.b1, E.b2, E.b3, E.b4, E.b5, E.b6, E.b7, E.b8, E.b9, E.b10, E.b11, E.b12, E.b13, E.b14, E.b15, E.b16, E.b17, E.b18, E.b19, E.b20, reduceCtorEq] at hc
                  all_goals (
                    refine E.CW.skip ?_
                    refine E.then_n ?_
                    refine E.CW.seq ?_
                    refine E.CW.block ?_
                    refine E.CW.seq ?_
                    have hin : (y.x.nr s.1).getD i 0 ∈ y.x.nr s.1 := by rw [List.getD_eq_getElem?_getD, List.getElem?_eq_getElem (show i < (y.x.nr s.1).length by omega), Option.getD_some]; exact List.getElem_mem _
                    have hjn := hok.nrlt _ _ hs1 hin
                    refine E.CW.region ?_
                    refine E.OW.pure rfl rfl rfl (E.PV.indexAddr1 (E.p_nr (E.sr0 hr) ?_) Try.underlying31 in3 rfl rfl rfl rfl ?_ ?_) ?_; (focus (omega)); (focus (first | (simp; done) | (simp; omega))); (focus (omega))
                    refine E.OW.pure rfl rfl rfl (E.PV.load_nn (E.p_nr (E.sr0 hr) ?_) na3 rfl rfl ?_) ?_; (focus (omega)); (focus (omega))
                    refine E.OW.pure rfl rfl rfl (E.PV.assign rfl rfl) ?_
                    refine E.OW.nil ?_
                    refine E.then_n ?_
                    refine E.CW.seq ?_
                    refine E.CW.region ?_
                    refine E.OW.pure rfl rfl rfl (E.PV.load (i := 3) na87 rfl rfl rfl rfl) ?_
                    refine E.OW.pure rfl rfl rfl (E.PV.nilCheck rfl rfl) ?_
                    refine E.OW.pure rfl rfl rfl (E.PV.fieldAddr fa93_1 rfl rfl) ?_
                    refine E.OW.pure rfl rfl rfl (E.PV.load_at (E.p_b (E.sr0 hr)) na89 rfl rfl rfl) ?_
                    refine E.OW.pure rfl rfl rfl (E.PV.move rfl rfl) ?_
                    refine E.OW.pure rfl rfl rfl (E.PV.indexAddr1 (E.p_c (E.sr0 hr)) Try.underlying89 in4 rfl rfl rfl rfl ?_ ?_) ?_; (focus (first | (simp; done) | (simp; omega))); (focus (omega))
                    refine E.OW.pure rfl rfl rfl (E.PV.load_bl (E.p_c (E.sr0 hr)) na4 rfl rfl ?_) ?_; (focus (omega))
                    refine E.OW.nil ?_
                    refine E.then_n ?_
                    refine E.CW.cond rfl (fun hc => ?_) (fun hc => ?_)
                    · skip
                      all_goals (
                        refine E.CW.drawx mixed [2, 2] rfl ?_
                        all_goals (refine E.AW.first 0 rfl (by kernel_rfl) (by kernel_rfl) (by kernel_rfl) rfl rfl rfl (E.PV.move rfl rfl) ?_)
                        all_goals (refine E.AW.first 1 rfl (by kernel_rfl) (by kernel_rfl) (by kernel_rfl) rfl rfl rfl (E.PV.move rfl rfl) ?_)
                        all_goals (refine E.AW.first 2 rfl (by kernel_rfl) (by kernel_rfl) (by kernel_rfl) rfl rfl rfl (E.PV.move rfl rfl) ?_)
                        all_goals (refine E.AW.first 3 rfl (by kernel_rfl) (by kernel_rfl) (by kernel_rfl) rfl rfl rfl (E.PV.load (i := 1) na87 rfl rfl rfl rfl) ?_)
                        all_goals (refine E.AW.first 4 rfl (by kernel_rfl) (by kernel_rfl) (by kernel_rfl) rfl rfl rfl (E.PV.nilCheck rfl rfl) ?_)
                        all_goals (refine E.AW.first 5 rfl (by kernel_rfl) (by kernel_rfl) (by kernel_rfl) rfl rfl rfl (E.PV.fieldAddr fa93_3 rfl rfl) ?_)
                        all_goals (refine E.AW.first 6 rfl (by kernel_rfl) (by kernel_rfl) (by kernel_rfl) rfl rfl rfl (E.PV.load_at (E.p_b (E.sr0 hr)) na91 rfl rfl rfl) ?_)
                        all_goals (refine E.AW.first 7 rfl (by kernel_rfl) (by kernel_rfl) (by kernel_rfl) rfl rfl rfl (E.PV.fieldAddr fa154_1 rfl rfl) ?_)
                        all_goals (refine E.AW.first 8 rfl (by kernel_rfl) (by kernel_rfl) (by kernel_rfl) rfl rfl rfl (E.PV.load (i := 0) na3 rfl rfl rfl rfl) ?_)
                        all_goals (refine E.AW.first 9 rfl (by kernel_rfl) (by kernel_rfl) (by kernel_rfl) rfl rfl rfl (E.PV.indexAddr1 (E.p_d (E.sr0 hr)) Try.underlying91 in31 rfl rfl rfl rfl ?_ ?_) ?_; (focus (first | (simp; done) | (simp; omega))); (focus (omega)))
                        all_goals (refine E.AW.first 10 rfl (by kernel_rfl) (by kernel_rfl) (by kernel_rfl) rfl rfl rfl (E.PV.load_sc (E.p_d (E.sr0 hr)) na31 rfl rfl ?_) ?_; (focus (omega)))
                        all_goals (refine E.AW.first 11 rfl (by kernel_rfl) (by kernel_rfl) (by kernel_rfl) rfl rfl rfl (E.PV.fieldAddr fa154_0 rfl rfl) ?_)
                        all_goals (refine E.AW.first 12 rfl (by kernel_rfl) (by kernel_rfl) (by kernel_rfl) rfl rfl rfl (E.PV.load (i := 0) na3 rfl rfl rfl rfl) ?_)
                        all_goals (refine E.AW.one 13 (by kernel_rfl) rfl ?_)
                        all_goals (refine E.OW.pure rfl rfl rfl (E.PV.indexAddr1 (E.p_dr (E.srdc (i := 1) rfl) ?_) Try.underlying31 in3 rfl rfl rfl rfl ?_ ?_) ?_; (focus (omega)); (focus (first | (simp; done) | (simp; omega))); (focus (omega)))
                        all_goals (first | (refine E.AW.nil [2, 2] rfl ?_) | (refine E.AW.nil [3, 3] rfl ?_) | (refine E.AW.nil [4, 4] rfl ?_) | (refine E.AW.nil [5, 5] rfl ?_) | (refine E.AW.nil [6, 6] rfl ?_) | (refine E.AW.nil [7, 7] rfl ?_) | (refine E.AW.nil [8, 8] rfl ?_) | (refine E.AW.nil [1, 1] rfl ?_) | (refine E.AW.nil [0, 0] rfl ?_))
                        all_goals (refine E.AW.one 14 (by kernel_rfl) rfl ?_)
                        all_goals (refine E.OW.pure rfl rfl rfl (E.PV.load_ii (E.p_dr (E.srdc (i := 1) rfl) ?_) na3 rfl rfl ?_) ?_; (focus (omega)); (focus (omega)))
                        all_goals (first | (refine E.AW.nil [2, 2] rfl ?_) | (refine E.AW.nil [3, 3] rfl ?_) | (refine E.AW.nil [4, 4] rfl ?_) | (refine E.AW.nil [5, 5] rfl ?_) | (refine E.AW.nil [6, 6] rfl ?_) | (refine E.AW.nil [7, 7] rfl ?_) | (refine E.AW.nil [8, 8] rfl ?_) | (refine E.AW.nil [1, 1] rfl ?_) | (refine E.AW.nil [0, 0] rfl ?_))
                        all_goals (refine E.AW.first 15 rfl (by kernel_rfl) (by kernel_rfl) (by kernel_rfl) rfl rfl rfl (E.PV.add_i64 rfl rfl rfl ?_) ?_; (focus (omega)))
                        all_goals (refine E.AW.conv (E.cv_gather [0, 0, 0, 0] 2 rfl rfl) ?_)
                        all_goals (refine E.AW.one 16 (by kernel_rfl) rfl ?_)
                        all_goals (refine E.OW.callcM nm128 rfl rfl rfl rfl rfl rfl _ 0 rfl (fun w S2 hw hs hb2 hc => see_ok y D B1 B2 (h + 1) ((y.x.nr s.1).getD i 0) (Bf.bef y.x s.2) q (D s.2 s.1 + 1) S2 w hs (fun k hk => (hb2 k hk).1) (hw.rd0M hr hb2) (E.blk_in hc (i := 1) rfl) (Bf.bef_lt hok _) (by assumption) (by omega)) ?_; rintro _ _ rfl)
                        all_goals (first | (refine E.AW.nil [2, 2] rfl ?_) | (refine E.AW.nil [3, 3] rfl ?_) | (refine E.AW.nil [4, 4] rfl ?_) | (refine E.AW.nil [5, 5] rfl ?_) | (refine E.AW.nil [6, 6] rfl ?_) | (refine E.AW.nil [7, 7] rfl ?_) | (refine E.AW.nil [8, 8] rfl ?_) | (refine E.AW.nil [1, 1] rfl ?_) | (refine E.AW.nil [0, 0] rfl ?_))
                        all_goals (refine E.AW.done (by kernel_rfl) ?_)
                        all_goals (
                          skip
                          refine E.blk_n ?_
                          refine E.then_n ?_
                          refine E.CW.region ?_
                          refine E.OW.pure rfl rfl rfl (E.PV.add_i64 rfl rfl rfl ?_) ?_; (focus (omega))
                          refine E.OW.pure rfl rfl rfl (E.PV.move rfl rfl) ?_
                          refine E.OW.nil ?_
                          refine E.then_nf ?_
                          refine ⟨_, [(53, _)], [0, 0, 0, 0], [_, _], ?_, by repeat (first | exact E.cov_nil | refine ⟨rfl, ?_⟩), rfl, i + 1, _, _, rfl, rfl, rfl, by omega, (Bf.seeQ_at hP.hl).trans hat, (by have hx := hP.see hok (by rw [hat]; omega) (by rw [hat]; assumption); rw [hat] at hx; exact hx)⟩
                          omega))
                    · skip
                      all_goals (
                        refine E.CW.skip ?_
                        refine E.blk_n ?_
                        refine E.then_n ?_
                        refine E.CW.region ?_
                        refine E.OW.pure rfl rfl rfl (E.PV.add_i64 rfl rfl rfl ?_) ?_; (focus (omega))
                        refine E.OW.pure rfl rfl rfl (E.PV.move rfl rfl) ?_
                        refine E.OW.nil ?_
                        refine E.then_nf ?_
                        refine ⟨_, [(53, _)], [0, 0, 0, 0], [_, _], ?_, by repeat (first | exact E.cov_nil | refine ⟨rfl, ?_⟩), rfl, i + 1, _, _, rfl, rfl, rfl, by omega, hat, hP.skip (by rw [hat]; assumption)⟩
                        omega))
                · simp only [E.b0, E.b1, E.b2, E.b3, E.b4, E.b5, E.b6, E.b7, E.b8, E.b9, E.b10, E.b11, E.b12, E.b13, E.b14, E.b15, E.b16, E.b17, E.b18, E.b19, E.b20, reduceCtorEq] at hc
                  all_goals (
                    refine E.CW.exit ?_
                    refine E.then_x ?_
                    refine E.then_x ?_
                    refine E.blk_eq ?_
                    refine E.blk_n ?_
                    refine E.then_nf ?_
                    refine ⟨_, [], [0, 0, 1], [_, _], ?_, by repeat (first | exact E.cov_nil | refine ⟨rfl, ?_⟩), rfl, h + 1, _, _, rfl, rfl, rfl, hP.hl, hP.done (by rw [hat]; omega), hP.g⟩
                    omega)))
end Go.Proofs.Ytflkbabhbnmajaa

/- Making a plan: rows that are filled, rows of rows that grow. -/
set_option linter.unusedSimpArgs false
set_option linter.unusedVariables false
namespace Go.Proofs.Ytflkbabhbnmajaa
namespace E
open Go Go.RowKit
/-- the first i of what f says, the others not. -/
def ltb (i : Nat) (f : Nat → Bool) (j : Nat) : Bool := decide (j < i) && f j
def inl (l : List Int) (j : Nat) : Bool := decide ((j : Int) ∈ l)
theorem ltb_at {i : Nat} {f : Nat → Bool} : ltb (i + 1) f i = f i := by simp [ltb]
theorem ltb_set {i n : Nat} {f : Nat → Bool} {b : Bool} (h : b = f i) : bls n (up (ltb i f) i b) = bls n (ltb (i + 1) f) := by
  congr 1
  funext j
  unfold up ltb
  by_cases hj : j = i
  · subst hj; simp [h]
  · rw [if_neg hj]; congr 1; rw [decide_eq_decide]; omega
theorem bls_congr {n : Nat} {f g : Nat → Bool} (h : ∀ j, j < n → f j = g j) : bls n f = bls n g := by
  unfold bls; apply List.map_congr_left; intro j hj; rw [h j (List.mem_range.1 hj)]
theorem ltb_zero (n : Nat) (f : Nat → Bool) : bls n (fun _ => false) = bls n (ltb 0 f) := bls_congr fun j _ => by simp [ltb]
theorem ltb_all (n : Nat) (f : Nat → Bool) : bls n (ltb n f) = bls n f := bls_congr fun j hj => by simp [ltb, hj]
theorem inl_zero (n : Nat) : bls n (fun _ => false) = bls n (inl []) := bls_congr fun j _ => by simp [inl]
theorem inl_take {n i : Nat} {l : List Int} (hi : i < l.length) (h0 : 0 ≤ l.getD i 0) : bls n (up (inl (l.take i)) (l.getD i 0).toNat true) = bls n (inl (l.take (i + 1))) := by
  congr 1
  funext j
  unfold up inl
  have e : l.getD i 0 = l[i] := by simp [List.getD, hi]
  rw [List.take_add_one, List.getElem?_eq_getElem hi, Option.toList_some]
  simp only [List.mem_append, List.mem_singleton]
  by_cases hj : j = (l.getD i 0).toNat
  · rw [if_pos hj]
    have : (j : Int) = l[i] := by rw [← e]; omega
    simp [this]
  · rw [if_neg hj, decide_eq_decide]
    have : ¬ (j : Int) = l[i] := by rw [← e]; omega
    simp [this]
theorem up_id {α : Type} {f : Nat → α} {k : Nat} {v : α} (h : f k = v) : up f k v = f := by
  funext j; unfold up; split
  · rename_i e; rw [e, h]
  · rfl
theorem up_self {α : Type} (f : Nat → α) (k : Nat) : up f k (f k) = f := up_id rfl
theorem up_up {α : Type} (f : Nat → α) (k : Nat) (u v : α) : up (up f k u) k v = up f k v := by
  funext j; unfold up; split <;> rfl
theorem iis_set_m1 {i n : Nat} : iis n (up (fun j => if j < i then (-1 : Int) else 0) i (-1)) = iis n (fun j => if j < i + 1 then (-1 : Int) else 0) := by
  congr 1
  funext j
  unfold up
  by_cases hj : j = i
  · subst hj; simp
  · rw [if_neg hj]
    show (if j < i then (-1 : Int) else 0) = if j < i + 1 then (-1 : Int) else 0
    by_cases h : j < i
    · rw [if_pos h, if_pos (by omega)]
    · rw [if_neg h, if_neg (by omega)]
theorem iis_congr {n : Nat} {f g : Nat → Int} (h : ∀ j, j < n → f j = g j) : iis n f = iis n g := by
  unfold iis; apply List.map_congr_left; intro j hj; rw [h j (List.mem_range.1 hj)]
theorem slc2_congr {n : Nat} {A A' : Nat → Option Addr} {l l' c c' : Nat → Nat} (h : ∀ j, j < n → A j = A' j ∧ l j = l' j ∧ c j = c' j) : slc2 n A l c = slc2 n A' l' c' := by
  unfold slc2; apply List.map_congr_left; intro j hj; obtain ⟨h1, h2, h3⟩ := h j (List.mem_range.1 hj); rw [h1, h2, h3]
theorem rows_congr {Et n : Nat} {A A' : Nat → Option Addr} {l l' c c' : Nat → Nat} {xs xs' : Nat → List Value} (h : ∀ j, j < n → A j = A' j ∧ l j = l' j ∧ c j = c' j ∧ xs j = xs' j) : HP.rows Et n A l c xs = HP.rows Et n A' l' c' xs' := by
  unfold HP.rows; congr 1; apply List.map_congr_left; intro j hj; obtain ⟨h1, h2, h3, h4⟩ := h j (List.mem_range.1 hj); rw [h1, h2, h3, h4]
theorem slc2_snocN (m N : Nat) (A : Nat → Option Addr) (u : Nat → Nat) (A' : Option Addr) (c' : Nat) : slc2 m A (fun _ => N) u ++ [.slice A' N c'] = slc2 (m + 1) (up A m A') (fun _ => N) (up u m c') := by
  rw [slc2_snoc, up_id rfl]

/-! ### Some x -/
def HP.ex {α : Type} (f : α → HP) : HP := ⟨fun S w => ∃ x, (f x).sem S w, fun S w w' h ⟨x, hx⟩ => ⟨x, (f x).loc S w w' h hx⟩⟩

section
variable {P : Program} {n : Fr} {w0 : World} {F : Nat → Prop} {K : Kt} {l : Env} {H : List HP} {o : Oper}
theorem CW.exout {c : Code} {α : Type} {f : α → HP} {H1 : List HP} (i : Nat) (hi : sel H i = some (HP.ex f, H1)) (k : ∀ x, CW P n w0 F c K l (f x :: H1)) : CW P n w0 F c K l H := fun a w ha hw => by
  have h1 := hw.sel hi
  obtain ⟨S, ⟨x, g1⟩, g2, g3⟩ := h1.chunks
  exact k x a w ha { h1 with chunks := ⟨S, g1, g2, g3⟩ }
/-! ### A slice that holds something has an address -/
theorem CW.row_some {c : Code} {Et sz m cc : Nat} {A : Option Addr} {xs : List Value} {H1 : List HP} (i : Nat) (hi : sel H i = some (HP.row Et sz A m cc xs, H1)) (hm : 0 < m) (k : ∀ B, A = some ⟨B, 0, none⟩ → CW P n w0 F c K l H) : CW P n w0 F c K l H := fun a w ha hw => by
  rcases (hw.row hi).2 with ⟨_, h0⟩ | ⟨g, cap, cur, hv, _⟩
  · omega
  · injection hv with h1 _ _
    exact k g h1 a w ha hw
theorem PV.indexAddrA {t e : TypeId} {x ix : Operand} {ad : Addr} {m c : Nat} {k : IntKind} {i : Int} {j bytes : Nat} {z : Value} (hT : P.underlying t = some (.slice e)) (hI : In P e z 1 bytes)
    (ho : o.op = .indexAddr t x ix) (hx : ev l x = some (.slice (some ad) m c)) (hix : ev l ix = some (.int k i)) (hj : i = (j : Int)) (hlt : j < m) : PV P n w0 F l H o (eptr (some ad) j) := fun a w ha hw => by
  obtain ⟨q, hq, _, hs, _⟩ := hI.parts
  subst hj
  simp [execOp, ho, ha.ev hx, ha.ev hix, Instr.indexAt, asIntOf, run_underlying hT, sizeOf, typeInfo, hq, hs, hlt, eptr, show (0 : Int) ≤ (j : Int) by omega]

/-! ### Rows of rows -/
theorem cv_nils (Et : Nat) : ∀ m, ∀ w U, Chunks w U H → Chunks w U (HP.rows Et m (fun _ => none) (fun _ => 0) (fun _ => 0) (fun _ => []) :: H) := by
  intro m
  induction m with
  | zero => exact fun w U h => h.bag_nil
  | succ m ih =>
    intro w U h
    have h1 := ih w U h
    have h2 : Chunks w U (HP.row Et 1 none 0 0 [] :: HP.rows Et m (fun _ => none) (fun _ => 0) (fun _ => 0) (fun _ => []) :: H) :=
      ⟨fun _ => False, ⟨fun k => by simp [Value.ownBlock], World.ownsRow_nil w 0 Et 1⟩, fun _ hk => hk.elim, h1.congr fun k => by simp⟩
    have h3 := E.rows_snoc h2
    have e : ∀ {α : Type} (v : α), up (fun _ => v) m v = fun _ => v := fun v => up_id rfl
    rw [e, e, e] at h3
    exact h3
def HP.rowsx (Et m : Nat) (A : Nat → Option Addr) (len c : Nat → Nat) (xs : Nat → List Value) (k : Nat) : HP := HP.bag (((List.range m).erase k).map fun j => HP.row Et 1 (A j) (len j) (c j) (xs j))
theorem cv_rows_out {Et m k : Nat} {A : Nat → Option Addr} {len c : Nat → Nat} {xs : Nat → List Value} {H1 : List HP} (i : Nat) (hi : sel H i = some (HP.rows Et m A len c xs, H1)) (hk : k < m) :
    ∀ w U, Chunks w U H → Chunks w U (HP.row Et 1 (A k) (len k) (c k) (xs k) :: HP.rowsx Et m A len c xs k :: H1) := fun w U h => by
  have hp := (List.perm_cons_erase (List.mem_range.2 hk)).map fun j => HP.row Et 1 (A j) (len j) (c j) (xs j)
  exact Chunks.bag_out (Chunks.bag_perm hp (h.perm (sel_perm hi)))
theorem cv_rows_in {Et m k : Nat} {A : Nat → Option Addr} {len c : Nat → Nat} {xs : Nat → List Value} {H1 H2 : List HP} (i j : Nat) {A' : Option Addr} {l' c' : Nat} {ys : List Value} (hi : sel H i = some (HP.row Et 1 A' l' c' ys, H1)) (hj : sel H1 j = some (HP.rowsx Et m A len c xs k, H2)) (hk : k < m) :
    ∀ w U, Chunks w U H → Chunks w U (HP.rows Et m (up A k A') (up len k l') (up c k c') (up xs k ys) :: H2) := fun w U h => by
  have h1 := Chunks.bag_in (h.perm ((sel_perm hi).trans ((sel_perm hj).cons _)))
  refine Chunks.bag_perm ?_ h1
  have hp := (List.perm_cons_erase (List.mem_range.2 hk)).map fun j => HP.row Et 1 (up A k A' j) (up len k l' j) (up c k c' j) (up xs k ys j)
  refine List.Perm.trans ?_ hp.symm
  rw [List.map_cons, up_same, up_same, up_same, up_same]
  have : (((List.range m).erase k).map fun j => HP.row Et 1 (up A k A' j) (up len k l' j) (up c k c' j) (up xs k ys j)) = ((List.range m).erase k).map fun j => HP.row Et 1 (A j) (len j) (c j) (xs j) := by
    apply List.map_congr_left
    intro q hq
    have hne := ((List.Nodup.mem_erase_iff (List.nodup_range)).1 hq).1
    rw [up_ne _ _ hne, up_ne _ _ hne, up_ne _ _ hne, up_ne _ _ hne]
  rw [this]
theorem cv_rows_snocN {Et m N : Nat} {A : Nat → Option Addr} {c : Nat → Nat} {xs : Nat → List Value} {H1 H2 : List HP} (i j : Nat) {A' : Option Addr} {c' : Nat} {ys : List Value} (hi : sel H i = some (HP.row Et 1 A' N c' ys, H1)) (hj : sel H1 j = some (HP.rows Et m A (fun _ => N) c xs, H2)) (hy : ys = xs m) :
    ∀ w U, Chunks w U H → Chunks w U (HP.rows Et (m + 1) (up A m A') (fun _ => N) (up c m c') xs :: H2) := fun w U h => by
  subst hy
  have h1 := E.rows_snoc (h.perm ((sel_perm hi).trans ((sel_perm hj).cons _)))
  rw [up_id (f := fun _ => N) rfl, up_self] at h1
  exact h1
theorem cv_snocN {Et m N q cc : Nat} {B : Option Addr} {A : Nat → Option Addr} {u : Nat → Nat} {A' : Option Addr} {c' : Nat} {H1 : List HP} (i : Nat) (hi : sel H i = some (HP.row Et 1 B q cc (slc2 m A (fun _ => N) u ++ [.slice A' N c']), H1)) (hq : q = m + 1) :
    ∀ w U, Chunks w U H → Chunks w U (HP.row Et 1 B (m + 1) cc (slc2 (m + 1) (up A m A') (fun _ => N) (up u m c')) :: H1) := by
  subst hq
  exact cv_chunk i _ hi (by rw [slc2_snocN])
end
/-! ### The neighbours of a place, as they are found -/
/-- the rows up to i are done, the others hold nothing. -/
structure NA (x : Bf.G) (i : Nat) (Xn : Nat → Option Addr) (ln un : Nat → Nat) (xs : Nat → List Value) : Prop where
  d : ∀ j, j < i → ln j = (x.nr j).length ∧ xs j = ints (nn x j)
  o : ∀ j, i ≤ j → Xn j = none ∧ ln j = 0 ∧ un j = 0 ∧ xs j = []
theorem NA.start (x : Bf.G) : NA x 0 (fun _ => none) (fun _ => 0) (fun _ => 0) (fun _ => []) := ⟨fun j h => by omega, fun j _ => ⟨rfl, rfl, rfl, rfl⟩⟩
theorem NA.next {x : Bf.G} {i : Nat} {Xn : Nat → Option Addr} {ln un : Nat → Nat} {xs : Nat → List Value} (h : NA x i Xn ln un xs) (A : Option Addr) (c : Nat) : NA x (i + 1) (up Xn i A) (up ln i (nn x i).length) (up un i c) (up xs i (ints (nn x i))) := by
  refine ⟨fun j hj => ?_, fun j hj => ?_⟩
  · by_cases e : j = i
    · subst e; rw [up_same, up_same]; simp
    · rw [up_ne _ _ e, up_ne _ _ e]; exact h.d j (by omega)
  · rw [up_ne _ _ (by omega), up_ne _ _ (by omega), up_ne _ _ (by omega), up_ne _ _ (by omega)]; exact h.o j (by omega)
def HP.nb (B8 PB Bp N : Nat) (An : Option Addr) (cs : List Value) (i : Nat) (Xn : Nat → Option Addr) (ln un : Nat → Nat) (xs : Nat → List Value) (pre : List Int) : HP :=
  HP.ex fun (z : Option Addr × Nat) => HP.bag [HP.blk B8 87 [.pointer (some ⟨PB, 0, .none⟩)], HP.blk Bp 3 [.int .i64 (i : Int)], HP.blk PB 93 cs, HP.row 31 1 An N N (slc2 N (up Xn i z.1) (up ln i pre.length) (up un i z.2)), HP.rows 3 N (up Xn i z.1) (up ln i pre.length) (up un i z.2) (up xs i (ints pre))]
section
variable {P : Program} {n : Fr} {w0 : World} {F : Nat → Prop} {K : Kt} {l : Env} {H : List HP} {o : Oper}
variable {B8 PB Bp N : Nat} {An : Option Addr} {cs : List Value} {i : Nat} {Xn : Nat → Option Addr} {ln un : Nat → Nat} {xs : Nat → List Value}
theorem cv_nbin {x : Bf.G} {H2 : List HP} (is : List Nat) (hs : E.sels H is = some (HP.blk B8 87 [.pointer (some ⟨PB, 0, .none⟩)] :: HP.blk Bp 3 [.int .i64 (i : Int)] :: HP.blk PB 93 cs :: HP.row 31 1 An N N (slc2 N Xn ln un) :: HP.rows 3 N Xn ln un xs :: H2)) (h : NA x i Xn ln un xs) :
    ∀ w U, Chunks w U H → Chunks w U (HP.nb B8 PB Bp N An cs i Xn ln un xs [] :: H2) := by
  obtain ⟨h1, h2, h3, h4⟩ := h.o i (Nat.le_refl _)
  intro w U hc
  obtain ⟨S, g1, g2, g3⟩ := Chunks.gather (ps := [_, _, _, _, _]) (r := H2) (sels_chunks hs hc)
  refine ⟨S, ⟨(none, 0), ?_⟩, g2, g3⟩
  simp only [List.length_nil, up_id h1, up_id h2, up_id h3, up_id (show xs i = ints [] from h4)]
  exact g1
theorem CW.nbout {c : Code} {pre : List Int} {H1 : List HP} (hi : H = HP.nb B8 PB Bp N An cs i Xn ln un xs pre :: H1) (hN : i < N)
    (k : ∀ A u, CW P n w0 F c K l (HP.row 3 1 A pre.length u (ints pre) :: HP.rowsx 3 N (up Xn i A) (up ln i pre.length) (up un i u) (up xs i (ints pre)) i :: HP.blk B8 87 [.pointer (some ⟨PB, 0, .none⟩)] :: HP.blk Bp 3 [.int .i64 (i : Int)] :: HP.blk PB 93 cs :: HP.row 31 1 An N N (slc2 N (up Xn i A) (up ln i pre.length) (up un i u)) :: H1)) : CW P n w0 F c K l H := by
  subst hi
  refine CW.exout 0 rfl fun z => ?_
  refine CW.open 0 rfl ?_
  refine CW.conv (cv_rows_out (k := i) 4 rfl hN) ?_
  rw [up_same, up_same, up_same, up_same]
  exact k z.1 z.2
theorem CW.nbend {c : Code} {pre : List Int} {H1 : List HP} (hi : H = HP.nb B8 PB Bp N An cs i Xn ln un xs pre :: H1)
    (k : ∀ A u, CW P n w0 F c K l (HP.blk B8 87 [.pointer (some ⟨PB, 0, .none⟩)] :: HP.blk Bp 3 [.int .i64 (i : Int)] :: HP.blk PB 93 cs :: HP.row 31 1 An N N (slc2 N (up Xn i A) (up ln i pre.length) (up un i u)) :: HP.rows 3 N (up Xn i A) (up ln i pre.length) (up un i u) (up xs i (ints pre)) :: H1)) : CW P n w0 F c K l H := by
  subst hi
  exact CW.exout 0 rfl fun z => CW.open 0 rfl (k z.1 z.2)
theorem cv_nbback {pre post : List Int} {m : Nat} {ys : List Value} {A A' : Option Addr} {u u' : Nat} {H2 : List HP} (is : List Nat) (hN : i < N) (hm : m = post.length) (hy : ys = ints post)
    (hs : E.sels H is = some (HP.row 3 1 A' m u' ys :: HP.rowsx 3 N (up Xn i A) (up ln i pre.length) (up un i u) (up xs i (ints pre)) i :: HP.blk B8 87 [.pointer (some ⟨PB, 0, .none⟩)] :: HP.blk Bp 3 [.int .i64 (i : Int)] :: HP.blk PB 93 cs :: HP.row 31 1 An N N (slc2 N (up (up Xn i A) i A') (up (up ln i pre.length) i m) (up (up un i u) i u')) :: H2)) :
    ∀ w U, Chunks w U H → Chunks w U (HP.nb B8 PB Bp N An cs i Xn ln un xs post :: H2) := by
  subst hm hy
  intro w U hc
  have h1 := cv_rows_in 0 0 rfl rfl hN w U (sels_chunks hs hc)
  simp only [up_up] at h1
  have h2 := h1.perm (H' := HP.blk B8 87 [.pointer (some ⟨PB, 0, .none⟩)] :: HP.blk Bp 3 [.int .i64 (i : Int)] :: HP.blk PB 93 cs :: HP.row 31 1 An N N (slc2 N (up Xn i A') (up ln i post.length) (up un i u')) :: HP.rows 3 N (up Xn i A') (up ln i post.length) (up un i u') (up xs i (ints post)) :: H2)
    ((List.Perm.swap _ _ _).trans (((List.Perm.swap _ _ _).trans (((List.Perm.swap _ _ _).trans (((List.Perm.swap _ _ _)).cons _)).cons _)).cons _))
  obtain ⟨S, g1, g2, g3⟩ := Chunks.gather (ps := [_, _, _, _, _]) (r := H2) h2
  exact ⟨S, ⟨(A', u'), g1⟩, g2, g3⟩
end
end E
end Go.Proofs.Ytflkbabhbnmajaa

/- Closed facts on the program (printed by gen.py). -/
namespace Go.Proofs.Ytflkbabhbnmajaa
open Go Go.RowKit
set_option linter.unusedSimpArgs false
set_option linter.unusedVariables false
theorem bld93_0_1_4 (x0 : Int) (x1 : Option Addr) (m1 c1 : Nat) (x2 : Option Addr) (m2 c2 : Nat) (w : World) : (Instr.build 93 #[(0, .int .i64 x0), (1, .slice x1 m1 c1), (4, .slice x2 m2 c2)]).run Try.prog w = .ok (.agg #[.int .i64 x0, .slice x1 m1 c1, .slice none 0 0, .slice none 0 0, .slice x2 m2 c2]) w := by kernel_rfl
theorem bsl90_1_0 (x0 : Option Addr) (m0 c0 : Nat) (w : World) : (Instr.buildSlice 90 1 #[(0, .slice x0 m0 c0)]).run Try.prog w = .ok (.slice (some ⟨w.heap.size, 0, none⟩) 1 1) (w.alloc (.cells #[.slice x0 m0 c0] 89)) := by kernel_rfl
theorem bsl91_1_0 (x0 : Option Addr) (m0 c0 : Nat) (w : World) : (Instr.buildSlice 91 1 #[(0, .slice x0 m0 c0)]).run Try.prog w = .ok (.slice (some ⟨w.heap.size, 0, none⟩) 1 1) (w.alloc (.cells #[.slice x0 m0 c0] 31)) := by kernel_rfl
theorem in87 : E.In Try.prog 87 (.pointer none) 1 8 := by unfold E.In; kernel_rfl
theorem in90 : E.In Try.prog 90 (.slice none 0 0) 1 24 := by unfold E.In; kernel_rfl
theorem in91 : E.In Try.prog 91 (.slice none 0 0) 1 24 := by unfold E.In; kernel_rfl
theorem nm101 : E.Nm Try.prog 101 := ⟨Try.f101, Try.func101, rfl, by kernel_rfl⟩
theorem nm103 : E.Nm Try.prog 103 := ⟨Try.f103, Try.func103, rfl, by kernel_rfl⟩
theorem nm126 : E.Nm Try.prog 126 := ⟨Try.f126, Try.func126, rfl, by kernel_rfl⟩
end Go.Proofs.Ytflkbabhbnmajaa

/- Walks (printed by gen.py). -/
namespace Go.Proofs.Ytflkbabhbnmajaa
open Go Go.RowKit
set_option linter.unusedSimpArgs false
set_option linter.unusedVariables false

set_option maxRecDepth 100000 in
theorem np_ok (g : E.Cfg) (t a b : Int) (w0 : World) (hg : g.rd w0 (E.Old w0)) (hgf : g.q.fit) (hL : Rt.Leg g.q t a b) :
    Calls Try.prog 59 #[g.v, .int .i64 t, .agg #[.int .i64 a, .int .i64 b]] w0 (E.Post w0 (E.Old w0) fun v Hn => ∃ (y : E.Pl) (D : Bf.DD), v = y.v ∧ Hn = [E.HP.plan y D] ∧ y.x = (Rt.G g.q t a b) ∧ ∀ k p, k < y.x.K → p < y.x.n → y.x.cell p = true → Bf.Ar y.x k p (D k p)) := by
  obtain ⟨hX1, hX2, hX3, hX4⟩ := id hg
  have hgl := E.Cfg.fit_len hgf
  obtain ⟨ht0, ht3, htn⟩ := hL.ten
  have htl : t.toNat < g.ts.length := by rw [← E.Cfg.ts_len g]; exact htn
  have hn64 : g.l.length ≤ 64 := Rt.len_le hL.c
  have hs16 : 1 ≤ g.s.length ∧ g.s.length ≤ 16 := Rt.per_of hL.c
  have hra : 0 ≤ a ∧ a < (g.l.length : Int) := hL.ra
  have hrb : 0 ≤ b ∧ b < (g.l.length : Int) := hL.rb
  have hsp : Rt.team g.q t = (g.ts.getD t.toNat E.Tm.z).q := E.Cfg.ts_getD g _
  have hspl := Rt.spots_small hL
  rw [hsp] at hspl
  refine E.calls_of_m (vs := [g.v, .int .i64 t, .agg #[.int .i64 a, .int .i64 b]]) (H := []) Try.func59 Try.ntmps59 rfl rfl (E.HA.start w0) ?_
  refine E.CW.seq ?_
  refine E.CW.region ?_
  refine E.OW.box rfl rfl rfl rfl rfl rfl (fun B1 => ?_)
  refine E.OW.box rfl rfl rfl rfl rfl rfl (fun B2 => ?_)
  refine E.OW.pure rfl rfl rfl (E.PV.assign rfl rfl) ?_
  refine E.OW.nil ?_
  refine E.then_n ?_
  refine E.CW.seq ?_
  refine E.CW.region ?_
  refine E.OW.pure rfl rfl rfl (E.PV.fieldAddr fa28_0 rfl rfl) ?_
  refine E.OW.pure rfl rfl rfl (E.PV.fieldAddr fa24_2 rfl rfl) ?_
  refine E.OW.pure rfl rfl rfl (E.PV.load (i := 1) na22 rfl rfl rfl rfl) ?_
  refine E.OW.pure rfl rfl rfl (E.PV.len Try.underlying22 rfl rfl) ?_
  refine E.OW.pure rfl rfl rfl (E.PV.assign rfl rfl) ?_
  refine E.OW.nil ?_
  refine E.then_n ?_
  refine E.CW.cut [1, 3, 5, 7, 9999] 0 rfl rfl (fun mods Hm => ∃ Ac : Option Addr, ∃ An : Option Addr, ∃ PB : Nat, ∃ B8 : Nat, mods = [(8, .pointer (some ⟨B8, 0, none⟩))] ∧ Hm = [E.HP.blk B8 87 [.pointer (some ⟨PB, 0, .none⟩)], E.HP.blk PB 93 [.int .i64 (g.s.length : Int), .slice Ac g.l.length g.l.length, .slice none 0 0, .slice none 0 0, .slice An g.l.length g.l.length], E.HP.row 4 1 Ac g.l.length g.l.length (E.bls g.l.length (fun _ => false)), E.HP.row 31 1 An g.l.length g.l.length (E.slc2 g.l.length (fun _ => none) (fun _ => 0) (fun _ => 0))] ∧ True) ?_ ?_
  · skip
    refine E.CW.drawx mixed [1] rfl ?_
    all_goals (refine E.AW.first 0 rfl (by kernel_rfl) (by kernel_rfl) (by kernel_rfl) rfl rfl rfl (E.PV.fieldAddr fa28_1 rfl rfl) ?_)
    all_goals (refine E.AW.first 1 rfl (by kernel_rfl) (by kernel_rfl) (by kernel_rfl) rfl rfl rfl (E.PV.load (i := 0) na22 rfl rfl rfl rfl) ?_)
    all_goals (refine E.AW.first 2 rfl (by kernel_rfl) (by kernel_rfl) (by kernel_rfl) rfl rfl rfl (E.PV.len Try.underlying22 rfl rfl) ?_)
    all_goals (refine E.AW.first 3 rfl (by kernel_rfl) (by kernel_rfl) (by kernel_rfl) rfl rfl rfl (E.PV.move rfl rfl) ?_)
    all_goals (refine E.AW.first 5 rfl (by kernel_rfl) (by kernel_rfl) (by kernel_rfl) rfl rfl rfl (E.PV.move rfl rfl) ?_)
    all_goals (
      refine E.AW.three 4 6 9 (by kernel_rfl) rfl rfl rfl ?ga1 ?gb1 ?gc1
      case' ga1 =>
          all_goals (refine E.OW.make_bl _ Try.underlying89 in4 rfl rfl rfl rfl rfl rfl rfl ?_ ?_ (fun A3 => ?_); (focus (unfold maxLen; omega)); (focus (omega)))
          all_goals (first | (refine E.AW.nil [1] rfl ?_) | (refine E.AW.nil [2] rfl ?_) | (refine E.AW.nil [3] rfl ?_) | (refine E.AW.nil [4] rfl ?_) | (refine E.AW.nil [5] rfl ?_) | (refine E.AW.nil [6] rfl ?_) | (refine E.AW.nil [7] rfl ?_) | (refine E.AW.nil [0] rfl ?_) | (refine E.AW.nil [0] rfl ?_))
          all_goals (
            refine E.AW.two 6 9 (by kernel_rfl) rfl rfl ?ga2 ?gb2
            case' ga2 =>
                all_goals (refine E.OW.make_s2 _ Try.underlying91 in31 rfl rfl rfl rfl rfl rfl rfl ?_ ?_ (fun A4 => ?_); (focus (unfold maxLen; omega)); (focus (omega)))
                all_goals (first | (refine E.AW.nil [1] rfl ?_) | (refine E.AW.nil [2] rfl ?_) | (refine E.AW.nil [3] rfl ?_) | (refine E.AW.nil [4] rfl ?_) | (refine E.AW.nil [5] rfl ?_) | (refine E.AW.nil [6] rfl ?_) | (refine E.AW.nil [7] rfl ?_) | (refine E.AW.nil [0] rfl ?_) | (refine E.AW.nil [0] rfl ?_))
                all_goals (refine E.AW.first 7 rfl (by kernel_rfl) (by kernel_rfl) (by kernel_rfl) rfl rfl rfl (E.PV.build (ps := [(0, .tmp 29), (1, .tmp 31), (4, .tmp 33)]) rfl rfl (fun w => bld93_0_1_4 _ _ _ _ _ _ _ w)) ?_)
                all_goals (
                  refine E.AW.two 8 9 (by kernel_rfl) rfl rfl ?ga3 ?gb3
                  case' ga3 =>
                      all_goals (refine E.OW.box rfl rfl rfl rfl rfl rfl (fun B5 => ?_))
                      all_goals (first | (refine E.AW.nil [1] rfl ?_) | (refine E.AW.nil [2] rfl ?_) | (refine E.AW.nil [3] rfl ?_) | (refine E.AW.nil [4] rfl ?_) | (refine E.AW.nil [5] rfl ?_) | (refine E.AW.nil [6] rfl ?_) | (refine E.AW.nil [7] rfl ?_) | (refine E.AW.nil [0] rfl ?_) | (refine E.AW.nil [0] rfl ?_))
                      all_goals (refine E.AW.one 9 (by kernel_rfl) rfl ?_)
                      all_goals (refine E.OW.alloc (in87.zr) rfl rfl rfl rfl rfl (fun B6 => ?_))
                      all_goals (first | (refine E.AW.nil [1] rfl ?_) | (refine E.AW.nil [2] rfl ?_) | (refine E.AW.nil [3] rfl ?_) | (refine E.AW.nil [4] rfl ?_) | (refine E.AW.nil [5] rfl ?_) | (refine E.AW.nil [6] rfl ?_) | (refine E.AW.nil [7] rfl ?_) | (refine E.AW.nil [0] rfl ?_) | (refine E.AW.nil [0] rfl ?_))
                      all_goals (refine E.AW.one 10 (by kernel_rfl) rfl ?_)
                      all_goals (refine E.OW.store (i := 0) in87.size rfl rfl rfl rfl rfl rfl rfl rfl rfl ?_)
                      all_goals (first | (refine E.AW.nil [1] rfl ?_) | (refine E.AW.nil [2] rfl ?_) | (refine E.AW.nil [3] rfl ?_) | (refine E.AW.nil [4] rfl ?_) | (refine E.AW.nil [5] rfl ?_) | (refine E.AW.nil [6] rfl ?_) | (refine E.AW.nil [7] rfl ?_) | (refine E.AW.nil [0] rfl ?_) | (refine E.AW.nil [0] rfl ?_))
                      all_goals (refine E.AW.done (by kernel_rfl) ?_)
                  case' gb3 =>
                      all_goals (refine E.OW.alloc (in87.zr) rfl rfl rfl rfl rfl (fun B7 => ?_))
                      all_goals (first | (refine E.AW.nil [1] rfl ?_) | (refine E.AW.nil [2] rfl ?_) | (refine E.AW.nil [3] rfl ?_) | (refine E.AW.nil [4] rfl ?_) | (refine E.AW.nil [5] rfl ?_) | (refine E.AW.nil [6] rfl ?_) | (refine E.AW.nil [7] rfl ?_) | (refine E.AW.nil [0] rfl ?_) | (refine E.AW.nil [0] rfl ?_))
                      all_goals (refine E.AW.one 8 (by kernel_rfl) rfl ?_)
                      all_goals (refine E.OW.box rfl rfl rfl rfl rfl rfl (fun B8 => ?_))
                      all_goals (first | (refine E.AW.nil [1] rfl ?_) | (refine E.AW.nil [2] rfl ?_) | (refine E.AW.nil [3] rfl ?_) | (refine E.AW.nil [4] rfl ?_) | (refine E.AW.nil [5] rfl ?_) | (refine E.AW.nil [6] rfl ?_) | (refine E.AW.nil [7] rfl ?_) | (refine E.AW.nil [0] rfl ?_) | (refine E.AW.nil [0] rfl ?_))
                      all_goals (refine E.AW.one 10 (by kernel_rfl) rfl ?_)
                      all_goals (refine E.OW.store (i := 1) in87.size rfl rfl rfl rfl rfl rfl rfl rfl rfl ?_)
                      all_goals (first | (refine E.AW.nil [1] rfl ?_) | (refine E.AW.nil [2] rfl ?_) | (refine E.AW.nil [3] rfl ?_) | (refine E.AW.nil [4] rfl ?_) | (refine E.AW.nil [5] rfl ?_) | (refine E.AW.nil [6] rfl ?_) | (refine E.AW.nil [7] rfl ?_) | (refine E.AW.nil [0] rfl ?_) | (refine E.AW.nil [0] rfl ?_))
                      all_goals (refine E.AW.done (by kernel_rfl) ?_))
            case' gb2 =>
                all_goals (refine E.OW.alloc (in87.zr) rfl rfl rfl rfl rfl (fun B9 => ?_))
                all_goals (first | (refine E.AW.nil [1] rfl ?_) | (refine E.AW.nil [2] rfl ?_) | (refine E.AW.nil [3] rfl ?_) | (refine E.AW.nil [4] rfl ?_) | (refine E.AW.nil [5] rfl ?_) | (refine E.AW.nil [6] rfl ?_) | (refine E.AW.nil [7] rfl ?_) | (refine E.AW.nil [0] rfl ?_) | (refine E.AW.nil [0] rfl ?_))
                all_goals (refine E.AW.one 6 (by kernel_rfl) rfl ?_)
                all_goals (refine E.OW.make_s2 _ Try.underlying91 in31 rfl rfl rfl rfl rfl rfl rfl ?_ ?_ (fun A10 => ?_); (focus (unfold maxLen; omega)); (focus (omega)))
                all_goals (first | (refine E.AW.nil [1] rfl ?_) | (refine E.AW.nil [2] rfl ?_) | (refine E.AW.nil [3] rfl ?_) | (refine E.AW.nil [4] rfl ?_) | (refine E.AW.nil [5] rfl ?_) | (refine E.AW.nil [6] rfl ?_) | (refine E.AW.nil [7] rfl ?_) | (refine E.AW.nil [0] rfl ?_) | (refine E.AW.nil [0] rfl ?_))
                all_goals (refine E.AW.first 7 rfl (by kernel_rfl) (by kernel_rfl) (by kernel_rfl) rfl rfl rfl (E.PV.build (ps := [(0, .tmp 29), (1, .tmp 31), (4, .tmp 33)]) rfl rfl (fun w => bld93_0_1_4 _ _ _ _ _ _ _ w)) ?_)
                all_goals (refine E.AW.one 8 (by kernel_rfl) rfl ?_)
                all_goals (refine E.OW.box rfl rfl rfl rfl rfl rfl (fun B11 => ?_))
                all_goals (first | (refine E.AW.nil [1] rfl ?_) | (refine E.AW.nil [2] rfl ?_) | (refine E.AW.nil [3] rfl ?_) | (refine E.AW.nil [4] rfl ?_) | (refine E.AW.nil [5] rfl ?_) | (refine E.AW.nil [6] rfl ?_) | (refine E.AW.nil [7] rfl ?_) | (refine E.AW.nil [0] rfl ?_) | (refine E.AW.nil [0] rfl ?_))
                all_goals (refine E.AW.one 10 (by kernel_rfl) rfl ?_)
                all_goals (refine E.OW.store (i := 2) in87.size rfl rfl rfl rfl rfl rfl rfl rfl rfl ?_)
                all_goals (first | (refine E.AW.nil [1] rfl ?_) | (refine E.AW.nil [2] rfl ?_) | (refine E.AW.nil [3] rfl ?_) | (refine E.AW.nil [4] rfl ?_) | (refine E.AW.nil [5] rfl ?_) | (refine E.AW.nil [6] rfl ?_) | (refine E.AW.nil [7] rfl ?_) | (refine E.AW.nil [0] rfl ?_) | (refine E.AW.nil [0] rfl ?_))
                all_goals (refine E.AW.done (by kernel_rfl) ?_))
      case' gb1 =>
          all_goals (refine E.OW.make_s2 _ Try.underlying91 in31 rfl rfl rfl rfl rfl rfl rfl ?_ ?_ (fun A12 => ?_); (focus (unfold maxLen; omega)); (focus (omega)))
          all_goals (first | (refine E.AW.nil [1] rfl ?_) | (refine E.AW.nil [2] rfl ?_) | (refine E.AW.nil [3] rfl ?_) | (refine E.AW.nil [4] rfl ?_) | (refine E.AW.nil [5] rfl ?_) | (refine E.AW.nil [6] rfl ?_) | (refine E.AW.nil [7] rfl ?_) | (refine E.AW.nil [0] rfl ?_) | (refine E.AW.nil [0] rfl ?_))
          all_goals (
            refine E.AW.two 4 9 (by kernel_rfl) rfl rfl ?ga4 ?gb4
            case' ga4 =>
                all_goals (refine E.OW.make_bl _ Try.underlying89 in4 rfl rfl rfl rfl rfl rfl rfl ?_ ?_ (fun A13 => ?_); (focus (unfold maxLen; omega)); (focus (omega)))
                all_goals (first | (refine E.AW.nil [1] rfl ?_) | (refine E.AW.nil [2] rfl ?_) | (refine E.AW.nil [3] rfl ?_) | (refine E.AW.nil [4] rfl ?_) | (refine E.AW.nil [5] rfl ?_) | (refine E.AW.nil [6] rfl ?_) | (refine E.AW.nil [7] rfl ?_) | (refine E.AW.nil [0] rfl ?_) | (refine E.AW.nil [0] rfl ?_))
                all_goals (refine E.AW.first 7 rfl (by kernel_rfl) (by kernel_rfl) (by kernel_rfl) rfl rfl rfl (E.PV.build (ps := [(0, .tmp 29), (1, .tmp 31), (4, .tmp 33)]) rfl rfl (fun w => bld93_0_1_4 _ _ _ _ _ _ _ w)) ?_)
                all_goals (
                  refine E.AW.two 8 9 (by kernel_rfl) rfl rfl ?ga5 ?gb5
                  case' ga5 =>
                      all_goals (refine E.OW.box rfl rfl rfl rfl rfl rfl (fun B14 => ?_))
                      all_goals (first | (refine E.AW.nil [1] rfl ?_) | (refine E.AW.nil [2] rfl ?_) | (refine E.AW.nil [3] rfl ?_) | (refine E.AW.nil [4] rfl ?_) | (refine E.AW.nil [5] rfl ?_) | (refine E.AW.nil [6] rfl ?_) | (refine E.AW.nil [7] rfl ?_) | (refine E.AW.nil [0] rfl ?_) | (refine E.AW.nil [0] rfl ?_))
                      all_goals (refine E.AW.one 9 (by kernel_rfl) rfl ?_)
                      all_goals (refine E.OW.alloc (in87.zr) rfl rfl rfl rfl rfl (fun B15 => ?_))
                      all_goals (first | (refine E.AW.nil [1] rfl ?_) | (refine E.AW.nil [2] rfl ?_) | (refine E.AW.nil [3] rfl ?_) | (refine E.AW.nil [4] rfl ?_) | (refine E.AW.nil [5] rfl ?_) | (refine E.AW.nil [6] rfl ?_) | (refine E.AW.nil [7] rfl ?_) | (refine E.AW.nil [0] rfl ?_) | (refine E.AW.nil [0] rfl ?_))
                      all_goals (refine E.AW.one 10 (by kernel_rfl) rfl ?_)
                      all_goals (refine E.OW.store (i := 0) in87.size rfl rfl rfl rfl rfl rfl rfl rfl rfl ?_)
                      all_goals (first | (refine E.AW.nil [1] rfl ?_) | (refine E.AW.nil [2] rfl ?_) | (refine E.AW.nil [3] rfl ?_) | (refine E.AW.nil [4] rfl ?_) | (refine E.AW.nil [5] rfl ?_) | (refine E.AW.nil [6] rfl ?_) | (refine E.AW.nil [7] rfl ?_) | (refine E.AW.nil [0] rfl ?_) | (refine E.AW.nil [0] rfl ?_))
                      all_goals (refine E.AW.done (by kernel_rfl) ?_)
                  case' gb5 =>
                      all_goals (refine E.OW.alloc (in87.zr) rfl rfl rfl rfl rfl (fun B16 => ?_))
                      all_goals (first | (refine E.AW.nil [1] rfl ?_) | (refine E.AW.nil [2] rfl ?_) | (refine E.AW.nil [3] rfl ?_) | (refine E.AW.nil [4] rfl ?_) | (refine E.AW.nil [5] rfl ?_) | (refine E.AW.nil [6] rfl ?_) | (refine E.AW.nil [7] rfl ?_) | (refine E.AW.nil [0] rfl ?_) | (refine E.AW.nil [0] rfl ?_))
                      all_goals (refine E.AW.one 8 (by kernel_rfl) rfl ?_)
                      all_goals (refine E.OW.box rfl rfl rfl rfl rfl rfl (fun B17 => ?_))
                      all_goals (first | (refine E.AW.nil [1] rfl ?_) | (refine E.AW.nil [2] rfl ?_) | (refine E.AW.nil [3] rfl ?_) | (refine E.AW.nil [4] rfl ?_) | (refine E.AW.nil [5] rfl ?_) | (refine E.AW.nil [6] rfl ?_) | (refine E.AW.nil [7] rfl ?_) | (refine E.AW.nil [0] rfl ?_) | (refine E.AW.nil [0] rfl ?_))
                      all_goals (refine E.AW.one 10 (by kernel_rfl) rfl ?_)
                      all_goals (refine E.OW.store (i := 1) in87.size rfl rfl rfl rfl rfl rfl rfl rfl rfl ?_)
                      all_goals (first | (refine E.AW.nil [1] rfl ?_) | (refine E.AW.nil [2] rfl ?_) | (refine E.AW.nil [3] rfl ?_) | (refine E.AW.nil [4] rfl ?_) | (refine E.AW.nil [5] rfl ?_) | (refine E.AW.nil [6] rfl ?_) | (refine E.AW.nil [7] rfl ?_) | (refine E.AW.nil [0] rfl ?_) | (refine E.AW.nil [0] rfl ?_))
                      all_goals (refine E.AW.done (by kernel_rfl) ?_))
            case' gb4 =>
                all_goals (refine E.OW.alloc (in87.zr) rfl rfl rfl rfl rfl (fun B18 => ?_))
                all_goals (first | (refine E.AW.nil [1] rfl ?_) | (refine E.AW.nil [2] rfl ?_) | (refine E.AW.nil [3] rfl ?_) | (refine E.AW.nil [4] rfl ?_) | (refine E.AW.nil [5] rfl ?_) | (refine E.AW.nil [6] rfl ?_) | (refine E.AW.nil [7] rfl ?_) | (refine E.AW.nil [0] rfl ?_) | (refine E.AW.nil [0] rfl ?_))
                all_goals (refine E.AW.one 4 (by kernel_rfl) rfl ?_)
                all_goals (refine E.OW.make_bl _ Try.underlying89 in4 rfl rfl rfl rfl rfl rfl rfl ?_ ?_ (fun A19 => ?_); (focus (unfold maxLen; omega)); (focus (omega)))
                all_goals (first | (refine E.AW.nil [1] rfl ?_) | (refine E.AW.nil [2] rfl ?_) | (refine E.AW.nil [3] rfl ?_) | (refine E.AW.nil [4] rfl ?_) | (refine E.AW.nil [5] rfl ?_) | (refine E.AW.nil [6] rfl ?_) | (refine E.AW.nil [7] rfl ?_) | (refine E.AW.nil [0] rfl ?_) | (refine E.AW.nil [0] rfl ?_))
                all_goals (refine E.AW.first 7 rfl (by kernel_rfl) (by kernel_rfl) (by kernel_rfl) rfl rfl rfl (E.PV.build (ps := [(0, .tmp 29), (1, .tmp 31), (4, .tmp 33)]) rfl rfl (fun w => bld93_0_1_4 _ _ _ _ _ _ _ w)) ?_)
                all_goals (refine E.AW.one 8 (by kernel_rfl) rfl ?_)
                all_goals (refine E.OW.box rfl rfl rfl rfl rfl rfl (fun B20 => ?_))
                all_goals (first | (refine E.AW.nil [1] rfl ?_) | (refine E.AW.nil [2] rfl ?_) | (refine E.AW.nil [3] rfl ?_) | (refine E.AW.nil [4] rfl ?_) | (refine E.AW.nil [5] rfl ?_) | (refine E.AW.nil [6] rfl ?_) | (refine E.AW.nil [7] rfl ?_) | (refine E.AW.nil [0] rfl ?_) | (refine E.AW.nil [0] rfl ?_))
                all_goals (refine E.AW.one 10 (by kernel_rfl) rfl ?_)
                all_goals (refine E.OW.store (i := 2) in87.size rfl rfl rfl rfl rfl rfl rfl rfl rfl ?_)
                all_goals (first | (refine E.AW.nil [1] rfl ?_) | (refine E.AW.nil [2] rfl ?_) | (refine E.AW.nil [3] rfl ?_) | (refine E.AW.nil [4] rfl ?_) | (refine E.AW.nil [5] rfl ?_) | (refine E.AW.nil [6] rfl ?_) | (refine E.AW.nil [7] rfl ?_) | (refine E.AW.nil [0] rfl ?_) | (refine E.AW.nil [0] rfl ?_))
                all_goals (refine E.AW.done (by kernel_rfl) ?_))
      case' gc1 =>
          all_goals (refine E.OW.alloc (in87.zr) rfl rfl rfl rfl rfl (fun B21 => ?_))
          all_goals (first | (refine E.AW.nil [1] rfl ?_) | (refine E.AW.nil [2] rfl ?_) | (refine E.AW.nil [3] rfl ?_) | (refine E.AW.nil [4] rfl ?_) | (refine E.AW.nil [5] rfl ?_) | (refine E.AW.nil [6] rfl ?_) | (refine E.AW.nil [7] rfl ?_) | (refine E.AW.nil [0] rfl ?_) | (refine E.AW.nil [0] rfl ?_))
          all_goals (
            refine E.AW.two 4 6 (by kernel_rfl) rfl rfl ?ga6 ?gb6
            case' ga6 =>
                all_goals (refine E.OW.make_bl _ Try.underlying89 in4 rfl rfl rfl rfl rfl rfl rfl ?_ ?_ (fun A22 => ?_); (focus (unfold maxLen; omega)); (focus (omega)))
                all_goals (first | (refine E.AW.nil [1] rfl ?_) | (refine E.AW.nil [2] rfl ?_) | (refine E.AW.nil [3] rfl ?_) | (refine E.AW.nil [4] rfl ?_) | (refine E.AW.nil [5] rfl ?_) | (refine E.AW.nil [6] rfl ?_) | (refine E.AW.nil [7] rfl ?_) | (refine E.AW.nil [0] rfl ?_) | (refine E.AW.nil [0] rfl ?_))
                all_goals (refine E.AW.one 6 (by kernel_rfl) rfl ?_)
                all_goals (refine E.OW.make_s2 _ Try.underlying91 in31 rfl rfl rfl rfl rfl rfl rfl ?_ ?_ (fun A23 => ?_); (focus (unfold maxLen; omega)); (focus (omega)))
                all_goals (first | (refine E.AW.nil [1] rfl ?_) | (refine E.AW.nil [2] rfl ?_) | (refine E.AW.nil [3] rfl ?_) | (refine E.AW.nil [4] rfl ?_) | (refine E.AW.nil [5] rfl ?_) | (refine E.AW.nil [6] rfl ?_) | (refine E.AW.nil [7] rfl ?_) | (refine E.AW.nil [0] rfl ?_) | (refine E.AW.nil [0] rfl ?_))
                all_goals (refine E.AW.first 7 rfl (by kernel_rfl) (by kernel_rfl) (by kernel_rfl) rfl rfl rfl (E.PV.build (ps := [(0, .tmp 29), (1, .tmp 31), (4, .tmp 33)]) rfl rfl (fun w => bld93_0_1_4 _ _ _ _ _ _ _ w)) ?_)
                all_goals (refine E.AW.one 8 (by kernel_rfl) rfl ?_)
                all_goals (refine E.OW.box rfl rfl rfl rfl rfl rfl (fun B24 => ?_))
                all_goals (first | (refine E.AW.nil [1] rfl ?_) | (refine E.AW.nil [2] rfl ?_) | (refine E.AW.nil [3] rfl ?_) | (refine E.AW.nil [4] rfl ?_) | (refine E.AW.nil [5] rfl ?_) | (refine E.AW.nil [6] rfl ?_) | (refine E.AW.nil [7] rfl ?_) | (refine E.AW.nil [0] rfl ?_) | (refine E.AW.nil [0] rfl ?_))
                all_goals (refine E.AW.one 10 (by kernel_rfl) rfl ?_)
                all_goals (refine E.OW.store (i := 3) in87.size rfl rfl rfl rfl rfl rfl rfl rfl rfl ?_)
                all_goals (first | (refine E.AW.nil [1] rfl ?_) | (refine E.AW.nil [2] rfl ?_) | (refine E.AW.nil [3] rfl ?_) | (refine E.AW.nil [4] rfl ?_) | (refine E.AW.nil [5] rfl ?_) | (refine E.AW.nil [6] rfl ?_) | (refine E.AW.nil [7] rfl ?_) | (refine E.AW.nil [0] rfl ?_) | (refine E.AW.nil [0] rfl ?_))
                all_goals (refine E.AW.done (by kernel_rfl) ?_)
            case' gb6 =>
                all_goals (refine E.OW.make_s2 _ Try.underlying91 in31 rfl rfl rfl rfl rfl rfl rfl ?_ ?_ (fun A25 => ?_); (focus (unfold maxLen; omega)); (focus (omega)))
                all_goals (first | (refine E.AW.nil [1] rfl ?_) | (refine E.AW.nil [2] rfl ?_) | (refine E.AW.nil [3] rfl ?_) | (refine E.AW.nil [4] rfl ?_) | (refine E.AW.nil [5] rfl ?_) | (refine E.AW.nil [6] rfl ?_) | (refine E.AW.nil [7] rfl ?_) | (refine E.AW.nil [0] rfl ?_) | (refine E.AW.nil [0] rfl ?_))
                all_goals (refine E.AW.one 4 (by kernel_rfl) rfl ?_)
                all_goals (refine E.OW.make_bl _ Try.underlying89 in4 rfl rfl rfl rfl rfl rfl rfl ?_ ?_ (fun A26 => ?_); (focus (unfold maxLen; omega)); (focus (omega)))
                all_goals (first | (refine E.AW.nil [1] rfl ?_) | (refine E.AW.nil [2] rfl ?_) | (refine E.AW.nil [3] rfl ?_) | (refine E.AW.nil [4] rfl ?_) | (refine E.AW.nil [5] rfl ?_) | (refine E.AW.nil [6] rfl ?_) | (refine E.AW.nil [7] rfl ?_) | (refine E.AW.nil [0] rfl ?_) | (refine E.AW.nil [0] rfl ?_))
                all_goals (refine E.AW.first 7 rfl (by kernel_rfl) (by kernel_rfl) (by kernel_rfl) rfl rfl rfl (E.PV.build (ps := [(0, .tmp 29), (1, .tmp 31), (4, .tmp 33)]) rfl rfl (fun w => bld93_0_1_4 _ _ _ _ _ _ _ w)) ?_)
                all_goals (refine E.AW.one 8 (by kernel_rfl) rfl ?_)
                all_goals (refine E.OW.box rfl rfl rfl rfl rfl rfl (fun B27 => ?_))
                all_goals (first | (refine E.AW.nil [1] rfl ?_) | (refine E.AW.nil [2] rfl ?_) | (refine E.AW.nil [3] rfl ?_) | (refine E.AW.nil [4] rfl ?_) | (refine E.AW.nil [5] rfl ?_) | (refine E.AW.nil [6] rfl ?_) | (refine E.AW.nil [7] rfl ?_) | (refine E.AW.nil [0] rfl ?_) | (refine E.AW.nil [0] rfl ?_))
                all_goals (refine E.AW.one 10 (by kernel_rfl) rfl ?_)
                all_goals (refine E.OW.store (i := 3) in87.size rfl rfl rfl rfl rfl rfl rfl rfl rfl ?_)
                all_goals (first | (refine E.AW.nil [1] rfl ?_) | (refine E.AW.nil [2] rfl ?_) | (refine E.AW.nil [3] rfl ?_) | (refine E.AW.nil [4] rfl ?_) | (refine E.AW.nil [5] rfl ?_) | (refine E.AW.nil [6] rfl ?_) | (refine E.AW.nil [7] rfl ?_) | (refine E.AW.nil [0] rfl ?_) | (refine E.AW.nil [0] rfl ?_))
                all_goals (refine E.AW.done (by kernel_rfl) ?_)))
    all_goals (
      skip
      refine E.then_nf ?_
      first | (refine ⟨[(8, _)], [0, 0, 0, 0, 0, 0, 0], _, ?_, rfl, _, _, _, _, rfl, rfl, trivial⟩; focus (repeat (first | exact E.cov_nil | refine ⟨rfl, ?_⟩)); done) | (refine ⟨[(8, _)], [0, 0, 1, 0, 0, 0, 0], _, ?_, rfl, _, _, _, _, rfl, rfl, trivial⟩; focus (repeat (first | exact E.cov_nil | refine ⟨rfl, ?_⟩)); done))
  · rintro _ _ ⟨Ac, An, PB, B8, rfl, rfl, hI⟩
    refine E.CW.seq ?_
    refine E.CW.row_some 2 rfl (by omega) (fun QC hQC => ?_)
    subst hQC
    refine E.CW.row_some 3 rfl (by omega) (fun QN hQN => ?_)
    subst hQN
    refine E.CW.region ?_
    refine E.OW.pure rfl rfl rfl (E.PV.move rfl rfl) ?_
    refine E.OW.make_bl _ Try.underlying89 in4 rfl rfl rfl rfl rfl rfl rfl ?_ ?_ (fun A28 => ?_); (focus (unfold maxLen; omega)); (focus (omega))
    refine E.OW.pure rfl rfl rfl (E.PV.assign rfl rfl) ?_
    refine E.OW.nil ?_
    refine E.then_n ?_
    refine E.CW.seq ?_
    refine E.CW.seq ?_
    refine E.CW.row_some 0 rfl (by omega) (fun QS hQS => ?_)
    subst hQS
    refine E.CW.region ?_
    refine E.OW.pure rfl rfl rfl (E.PV.fieldAddr fa28_2 rfl rfl) ?_
    refine E.OW.pure rfl rfl rfl (E.PV.load (i := 6) na25 rfl rfl rfl rfl) ?_
    refine E.OW.pure rfl rfl rfl (E.PV.move rfl rfl) ?_
    refine E.OW.pure rfl rfl rfl (E.PV.indexAddr (E.rdc hX3) Try.underlying25 in79 rfl rfl rfl (E.tn ?_) ?_ ?_ (by decide)) ?_; (focus (omega)); (focus (first | (simp; done) | (simp; omega))); (focus (omega))
    refine E.OW.pure rfl rfl rfl (E.PV.load_tm (E.rdc hX3) is79 rfl rfl ?_) ?_; (focus (omega))
    (refine E.OW.call nm100 rfl rfl rfl rfl rfl rfl _ (fun w hw => Sp_ok (g.ts.getD t.toNat E.Tm.z) w (hw.rdm (hg.m _ (E.Tm.mem htl))) (E.Cfg.fit_m hgf _ (E.Tm.mem htl)) (by omega)) ?_; rintro _ _ ⟨AS, cS, rfl, rfl⟩)
    refine E.OW.pure rfl rfl rfl (E.PV.len Try.underlying31 rfl rfl) ?_
    refine E.OW.pure rfl rfl rfl (E.PV.move rfl rfl) ?_
    refine E.OW.nil ?_
    refine E.then_n ?_
    refine E.CW.block ?_
    refine E.CW.sels [1, 0, 0, 0, 0, 0, 0, 0, 0] rfl ?_
    refine E.CW.loopk [1, 3, 5, 7, 8, 9, 43, 44, 9999] 1 rfl rfl (fun mm mods Hm => ∃ i : Nat, mm = (Cf.spots (g.ts.getD t.toNat E.Tm.z).q).length - i ∧ mods = [(45, .int .i64 i)] ∧ Hm = [E.HP.row 4 1 (some ⟨QS, 0, .none⟩) g.l.length g.l.length (E.bls g.l.length (E.inl ((Cf.spots (g.ts.getD t.toNat E.Tm.z).q).take i)))] ∧ i ≤ (Cf.spots (g.ts.getD t.toNat E.Tm.z).q).length) ((Cf.spots (g.ts.getD t.toNat E.Tm.z).q).length) ?_ ?_
    · exact ⟨[(45, _)], (by repeat (first | exact E.cov_nil | refine ⟨rfl, ?_⟩)), 0, rfl, rfl, (by rw [E.inl_zero]; rfl), by omega⟩
    · rintro _ _ _ ⟨i, rfl, rfl, rfl, hi⟩
      refine E.CW.seq ?_
      skip
      refine E.CW.region ?_
      refine E.OW.pure rfl rfl rfl (E.PV.lss rfl rfl rfl) ?_
      refine E.OW.nil ?_
      refine E.then_n ?_
      refine E.CW.seq ?_
      refine E.CW.cond rfl (fun hc => ?_) (fun hc => ?_)
      · simp only [E.b0, E.b1, E.b2, E.b3, E.b4, E.b5, E.b6, E.b7, E.b8, E.b9, E.b10, E.b11, E.b12, E.b13, E.b14, E.b15, E.b16, E.b17, E.b18, E.b19, E.b20, reduceCtorEq] at hc
        all_goals (
          refine E.CW.skip ?_
          refine E.then_n ?_
          refine E.CW.seq ?_
          refine E.CW.block ?_
          refine E.CW.seq ?_
          refine E.CW.region ?_
          refine E.OW.pure rfl rfl rfl (E.PV.indexAddr1 (E.rdr (i := 1) rfl) Try.underlying31 in3 rfl rfl rfl rfl ?_ ?_) ?_; (focus (first | (simp; done) | (simp; omega))); (focus (omega))
          refine E.OW.pure rfl rfl rfl (E.PV.load_int (E.rdr (i := 1) rfl) na3 rfl rfl ?_) ?_; (focus (omega))
          refine E.OW.pure rfl rfl rfl (E.PV.assign rfl rfl) ?_
          refine E.OW.nil ?_
          refine E.then_n ?_
          have hsi := hL.spot (p := (Cf.spots (g.ts.getD t.toNat E.Tm.z).q).getD i 0) (by rw [hsp]; exact Rt.getD_mem (by omega))
          obtain ⟨⟨hsi0, hsi1⟩, _⟩ := hsi
          have hsi2 : (Cf.spots (g.ts.getD t.toNat E.Tm.z).q).getD i 0 < (g.l.length : Int) := hsi1
          refine E.CW.region ?_
          refine E.OW.pure rfl rfl rfl (E.PV.move rfl rfl) ?_
          refine E.OW.pure rfl rfl rfl (E.PV.move rfl rfl) ?_
          refine E.OW.pure rfl rfl rfl (E.PV.indexAddrA Try.underlying89 in4 rfl rfl rfl (E.tn ?_) ?_) ?_; (focus (omega)); (focus (omega))
          refine E.OW.store_bl (i := 0) in4.size rfl rfl rfl rfl rfl rfl ?_ ?_; (focus (omega))
          refine E.OW.nil ?_
          refine E.blk_n ?_
          refine E.then_n ?_
          refine E.CW.region ?_
          refine E.OW.pure rfl rfl rfl (E.PV.add_i64 rfl rfl rfl ?_) ?_; (focus (omega))
          refine E.OW.pure rfl rfl rfl (E.PV.move rfl rfl) ?_
          refine E.OW.nil ?_
          refine E.then_nf ?_
          refine ⟨_, [(45, _)], [0, 0, 0, 0, 0, 0, 0, 0, 0], [_], ?_, by repeat (first | exact E.cov_nil | refine ⟨rfl, ?_⟩), rfl, i + 1, rfl, rfl, (by rw [E.inl_take (by omega) (by omega)]), by omega⟩
          omega)
      · simp only [E.b0, E.b1, E.b2, E.b3, E.b4, E.b5, E.b6, E.b7, E.b8, E.b9, E.b10, E.b11, E.b12, E.b13, E.b14, E.b15, E.b16, E.b17, E.b18, E.b19, E.b20, reduceCtorEq] at hc
        all_goals (
          refine E.CW.exit ?_
          refine E.then_x ?_
          refine E.then_x ?_
          refine E.blk_eq ?_
          refine E.then_n ?_
          refine E.CW.cut [1, 3, 5, 7, 8, 9, 9999] 0 rfl rfl (fun mods Hm => ∃ Ao : Option Addr, ∃ Ai : Option Addr, mods = [(12, .slice Ao g.l.length g.l.length), (13, .slice Ai g.l.length g.l.length)] ∧ Hm = [E.HP.row 4 1 Ao g.l.length g.l.length (E.bls g.l.length (fun _ => false)), E.HP.row 4 1 Ai g.l.length g.l.length (E.bls g.l.length (fun _ => false))] ∧ True) ?_ ?_
          · skip
            refine E.CW.drawx mixed [] rfl ?_
            all_goals (refine E.AW.first 0 rfl (by kernel_rfl) (by kernel_rfl) (by kernel_rfl) rfl rfl rfl (E.PV.move rfl rfl) ?_)
            all_goals (refine E.AW.first 2 rfl (by kernel_rfl) (by kernel_rfl) (by kernel_rfl) rfl rfl rfl (E.PV.move rfl rfl) ?_)
            all_goals (
              refine E.AW.two 1 3 (by kernel_rfl) rfl rfl ?ga7 ?gb7
              case' ga7 =>
                  all_goals (refine E.OW.make_bl _ Try.underlying89 in4 rfl rfl rfl rfl rfl rfl rfl ?_ ?_ (fun A29 => ?_); (focus (unfold maxLen; omega)); (focus (omega)))
                  all_goals (refine E.AW.nil [] rfl ?_)
                  all_goals (refine E.AW.first 4 rfl (by kernel_rfl) (by kernel_rfl) (by kernel_rfl) rfl rfl rfl (E.PV.assign rfl rfl) ?_)
                  all_goals (refine E.AW.one 3 (by kernel_rfl) rfl ?_)
                  all_goals (refine E.OW.make_bl _ Try.underlying89 in4 rfl rfl rfl rfl rfl rfl rfl ?_ ?_ (fun A30 => ?_); (focus (unfold maxLen; omega)); (focus (omega)))
                  all_goals (refine E.AW.nil [] rfl ?_)
                  all_goals (refine E.AW.first 5 rfl (by kernel_rfl) (by kernel_rfl) (by kernel_rfl) rfl rfl rfl (E.PV.assign rfl rfl) ?_)
                  all_goals (refine E.AW.done (by kernel_rfl) ?_)
              case' gb7 =>
                  all_goals (refine E.OW.make_bl _ Try.underlying89 in4 rfl rfl rfl rfl rfl rfl rfl ?_ ?_ (fun A31 => ?_); (focus (unfold maxLen; omega)); (focus (omega)))
                  all_goals (refine E.AW.nil [] rfl ?_)
                  all_goals (refine E.AW.one 1 (by kernel_rfl) rfl ?_)
                  all_goals (refine E.OW.make_bl _ Try.underlying89 in4 rfl rfl rfl rfl rfl rfl rfl ?_ ?_ (fun A32 => ?_); (focus (unfold maxLen; omega)); (focus (omega)))
                  all_goals (refine E.AW.nil [] rfl ?_)
                  all_goals (refine E.AW.first 4 rfl (by kernel_rfl) (by kernel_rfl) (by kernel_rfl) rfl rfl rfl (E.PV.assign rfl rfl) ?_)
                  all_goals (refine E.AW.first 5 rfl (by kernel_rfl) (by kernel_rfl) (by kernel_rfl) rfl rfl rfl (E.PV.assign rfl rfl) ?_)
                  all_goals (refine E.AW.done (by kernel_rfl) ?_))
            all_goals (
              skip
              refine E.then_nf ?_
              first | (refine ⟨[(12, _), (13, _)], [0, 0, 0, 0, 0, 0, 0, 0, 0, 0, 0], _, ?_, rfl, _, _, rfl, rfl, trivial⟩; focus (repeat (first | exact E.cov_nil | refine ⟨rfl, ?_⟩)); done) | (refine ⟨[(12, _), (13, _)], [1, 0, 0, 0, 0, 0, 0, 0, 0, 0, 0], _, ?_, rfl, _, _, rfl, rfl, trivial⟩; focus (repeat (first | exact E.cov_nil | refine ⟨rfl, ?_⟩)); done))
          · rintro _ _ ⟨Ao, Ai, rfl, rfl, hI⟩
            refine E.CW.seq ?_
            refine E.CW.seq ?_
            obtain rfl : i = (Cf.spots (g.ts.getD t.toNat E.Tm.z).q).length := by omega
            refine E.CW.conv (E.cv_chunk 2 (E.HP.row 4 1 (some ⟨QS, 0, .none⟩) g.l.length g.l.length (E.bls g.l.length (E.inl (Cf.spots (g.ts.getD t.toNat E.Tm.z).q)))) rfl (by rw [List.take_length])) ?_
            refine E.CW.sels [1, 1, 0, 0, 0, 0, 0, 0, 0, 0, 0] rfl ?_
            refine E.CW.row_some 0 rfl (by omega) (fun QO hQO => ?_)
            subst hQO
            refine E.CW.row_some 1 rfl (by omega) (fun QI hQI => ?_)
            subst hQI
            refine E.CW.conv (E.cv_nils 3 g.l.length) ?_
            refine E.CW.region ?_
            refine E.OW.pure rfl rfl rfl (E.PV.move rfl rfl) ?_
            refine E.OW.pure rfl rfl rfl (E.PV.move rfl rfl) ?_
            refine E.OW.nil ?_
            refine E.then_n ?_
            refine E.CW.block ?_
            refine E.CW.sels [1, 1, 5, 5, 0, 6, 0, 1, 1, 1, 1] rfl ?_
            refine E.CW.loopk [1, 3, 5, 7, 8, 9, 12, 13, 57] 6 rfl rfl (fun mm mods Hm => ∃ i : Nat, ∃ Xn : Nat → Option Addr, ∃ ln : Nat → Nat, ∃ un : Nat → Nat, ∃ xs : Nat → List Value, ∃ ds : List Nat, mm = g.l.length - i ∧ mods = [(58, .int .i64 i), (9999, E.marks ds)] ∧ Hm = [E.HP.row 4 1 (some ⟨QO, 0, .none⟩) g.l.length g.l.length (E.bls g.l.length (E.ltb i (fun j => Rt.mine g.q t (j : Int)))), E.HP.row 4 1 (some ⟨QI, 0, .none⟩) g.l.length g.l.length (E.bls g.l.length (E.ltb i (fun j => Rt.aisle g.q (j : Int)))), E.HP.row 4 1 (some ⟨QC, 0, .none⟩) g.l.length g.l.length (E.bls g.l.length (E.ltb i (fun j => Rt.has g.q t a b (j : Int)))), E.HP.row 31 1 (some ⟨QN, 0, .none⟩) g.l.length g.l.length (E.slc2 g.l.length Xn ln un), E.HP.rows 3 g.l.length Xn ln un xs, E.HP.marks ds] ∧ (i ≤ g.l.length ∧ E.NA (Rt.G g.q t a b) i Xn ln un xs)) (g.l.length) ?_ ?_
            · exact ⟨[(58, _), (9999, _)], (by repeat (first | exact E.cov_nil | refine ⟨rfl, ?_⟩)), 0, _, _, _, _, _, rfl, rfl, (by rw [← E.ltb_zero, ← E.ltb_zero, ← E.ltb_zero]), by omega, E.NA.start _⟩
            · rintro _ _ _ ⟨i, Xn, ln, un, xs, ds, rfl, rfl, rfl, hi, hNA⟩
              refine E.CW.seq ?_
              refine E.CW.region ?_
              refine E.OW.pure rfl rfl rfl (E.PV.lss rfl rfl rfl) ?_
              refine E.OW.nil ?_
              refine E.then_n ?_
              refine E.CW.seq ?_
              refine E.CW.cond rfl (fun hc => ?_) (fun hc => ?_)
              · simp only [E.b0, E.b1, E.b2, E.b3, E.b4, E.b5, E.b6, E.b7, E.b8, E.b9, E.b10, E.b11, E.b12, E.b13, E.b14, E.b15, E.b16, E.b17, E.b18, E.b19, E.b20, reduceCtorEq] at hc
                all_goals (
                  refine E.CW.skip ?_
                  refine E.then_n ?_
                  refine E.CW.seq ?_
                  refine E.CW.block ?_
                  refine E.CW.seq ?_
                  refine E.CW.region ?_
                  refine E.OW.pure rfl rfl rfl (E.PV.move rfl rfl) ?_
                  refine E.OW.alloc (in3.zr) rfl rfl rfl rfl rfl (fun B914 => ?_)
                  refine E.OW.store (i := 0) in3.size rfl rfl rfl rfl rfl rfl rfl rfl rfl ?_
                  refine E.OW.nil ?_
                  refine E.then_n ?_
                  refine E.CW.seq ?_
                  refine E.CW.region ?_
                  refine E.OW.pure rfl rfl rfl (E.PV.loads (i := 11) is28 rfl rfl rfl rfl) ?_
                  refine E.OW.pure rfl rfl rfl (E.PV.load (i := 0) na3 rfl rfl rfl rfl) ?_
                  (refine E.OW.call nm99 rfl rfl rfl rfl rfl rfl _ (fun w hw => Ow_ok _ _ w ?_ ?_) ?_; (focus (refine hw.rdC ?_; assumption)); (focus (assumption)); rintro _ _ ⟨rfl, rfl⟩)
                  refine E.OW.pure rfl rfl rfl (E.PV.assign rfl rfl) ?_
                  refine E.OW.nil ?_
                  refine E.then_n ?_
                  refine E.CW.seq ?_
                  refine E.CW.drawx mixed [0] rfl ?_
                  all_goals (refine E.AW.first 0 rfl (by kernel_rfl) (by kernel_rfl) (by kernel_rfl) rfl rfl rfl (E.PV.move rfl rfl) ?_)
                  all_goals (refine E.AW.first 1 rfl (by kernel_rfl) (by kernel_rfl) (by kernel_rfl) rfl rfl rfl (E.PV.load (i := 0) na3 rfl rfl rfl rfl) ?_)
                  all_goals (refine E.AW.first 2 rfl (by kernel_rfl) (by kernel_rfl) (by kernel_rfl) rfl rfl rfl (E.PV.move rfl rfl) ?_)
                  all_goals (refine E.AW.first 3 rfl (by kernel_rfl) (by kernel_rfl) (by kernel_rfl) rfl rfl rfl (E.PV.load (i := 0) na3 rfl rfl rfl rfl) ?_)
                  all_goals (refine E.AW.first 4 rfl (by kernel_rfl) (by kernel_rfl) (by kernel_rfl) rfl rfl rfl (E.PV.move rfl rfl) ?_)
                  all_goals (refine E.AW.first 5 rfl (by kernel_rfl) (by kernel_rfl) (by kernel_rfl) rfl rfl rfl (E.PV.move rfl rfl) ?_)
                  all_goals (refine E.AW.first 6 rfl (by kernel_rfl) (by kernel_rfl) (by kernel_rfl) rfl rfl rfl (E.PV.eql rfl rfl rfl) ?_)
                  all_goals (refine E.AW.first 7 rfl (by kernel_rfl) (by kernel_rfl) (by kernel_rfl) rfl rfl rfl (E.PV.move rfl rfl) ?_)
                  all_goals (refine E.AW.first 8 rfl (by kernel_rfl) (by kernel_rfl) (by kernel_rfl) rfl rfl rfl (E.PV.eql rfl rfl rfl) ?_)
                  all_goals (refine E.AW.first 9 rfl (by kernel_rfl) (by kernel_rfl) (by kernel_rfl) rfl rfl rfl (E.PV.indexAddrA Try.underlying89 in4 rfl rfl rfl rfl ?_) ?_; (focus (omega)))
                  all_goals (refine E.AW.one 10 (by kernel_rfl) rfl ?_)
                  all_goals (refine E.OW.store_bl (i := 1) in4.size rfl rfl rfl rfl rfl rfl ?_ ?_; (focus (omega)))
                  all_goals (first | (refine E.AW.nil [0] rfl ?_) | (refine E.AW.nil [1] rfl ?_) | (refine E.AW.nil [2] rfl ?_) | (refine E.AW.nil [3] rfl ?_) | (refine E.AW.nil [4] rfl ?_) | (refine E.AW.nil [5] rfl ?_) | (refine E.AW.nil [6] rfl ?_) | (refine E.AW.nil [0] rfl ?_) | (refine E.AW.nil [0] rfl ?_))
                  all_goals (refine E.AW.first 11 rfl (by kernel_rfl) (by kernel_rfl) (by kernel_rfl) rfl rfl rfl (E.PV.indexAddrA Try.underlying89 in4 rfl rfl rfl rfl ?_) ?_; (focus (omega)))
                  all_goals (refine E.AW.one 12 (by kernel_rfl) rfl ?_)
                  all_goals (refine E.OW.store_bl (i := 2) in4.size rfl rfl rfl rfl rfl rfl ?_ ?_; (focus (omega)))
                  all_goals (first | (refine E.AW.nil [0] rfl ?_) | (refine E.AW.nil [1] rfl ?_) | (refine E.AW.nil [2] rfl ?_) | (refine E.AW.nil [3] rfl ?_) | (refine E.AW.nil [4] rfl ?_) | (refine E.AW.nil [5] rfl ?_) | (refine E.AW.nil [6] rfl ?_) | (refine E.AW.nil [0] rfl ?_) | (refine E.AW.nil [0] rfl ?_))
                  all_goals (refine E.AW.conv (E.cv_chunk 0 (E.HP.row 4 1 (some ⟨QI, 0, .none⟩) g.l.length g.l.length (E.bls g.l.length (E.ltb (i + 1) (fun j => Rt.aisle g.q (j : Int))))) rfl (congrArg (fun r => E.HP.row 4 1 (some ⟨QI, 0, .none⟩) g.l.length g.l.length (r)) (E.ltb_set rfl))) ?_)
                  all_goals (refine E.AW.conv (E.cv_chunk 1 (E.HP.row 4 1 (some ⟨QO, 0, .none⟩) g.l.length g.l.length (E.bls g.l.length (E.ltb (i + 1) (fun j => Rt.mine g.q t (j : Int))))) rfl (congrArg (fun r => E.HP.row 4 1 (some ⟨QO, 0, .none⟩) g.l.length g.l.length (r)) (E.ltb_set rfl))) ?_)
                  all_goals (refine E.AW.sels [3, 2, 0, 0, 0, 0, 0, 0, 0, 0, 0, 0] rfl ?_)
                  all_goals (refine E.AW.done (by kernel_rfl) ?_)
                  all_goals (
                    skip
                    refine E.then_n ?_
                    refine E.CW.cut [1, 3, 5, 7, 8, 9, 12, 13, 14, 57, 58, 9999] 1 rfl rfl (fun mods Hm =>  mods = [] ∧ Hm = [E.HP.row 4 1 (some ⟨QC, 0, .none⟩) g.l.length g.l.length (E.bls g.l.length (E.ltb (i + 1) (fun j => Rt.has g.q t a b (j : Int))))] ∧ True) ?_ ?_
                    · skip
                      refine E.CW.drawx mixed [1, 1, 1, 1, 1, 1, 1, 1, 1, 1, 1] rfl ?_
                      all_goals (refine E.AW.first 0 rfl (by kernel_rfl) (by kernel_rfl) (by kernel_rfl) rfl rfl rfl (E.PV.load (i := 7) na87 rfl rfl rfl rfl) ?_)
                      all_goals (refine E.AW.first 1 rfl (by kernel_rfl) (by kernel_rfl) (by kernel_rfl) rfl rfl rfl (E.PV.nilCheck rfl rfl) ?_)
                      all_goals (refine E.AW.first 2 rfl (by kernel_rfl) (by kernel_rfl) (by kernel_rfl) rfl rfl rfl (E.PV.fieldAddr fa93_1 rfl rfl) ?_)
                      all_goals (refine E.AW.first 3 rfl (by kernel_rfl) (by kernel_rfl) (by kernel_rfl) rfl rfl rfl (E.PV.load (i := 8) na89 rfl rfl rfl rfl) ?_)
                      all_goals (refine E.AW.first 4 rfl (by kernel_rfl) (by kernel_rfl) (by kernel_rfl) rfl rfl rfl (E.PV.load (i := 0) na3 rfl rfl rfl rfl) ?_)
                      all_goals (refine E.AW.first 5 rfl (by kernel_rfl) (by kernel_rfl) (by kernel_rfl) rfl rfl rfl (E.PV.load (i := 0) na3 rfl rfl rfl rfl) ?_)
                      all_goals (refine E.AW.first 6 rfl (by kernel_rfl) (by kernel_rfl) (by kernel_rfl) rfl rfl rfl (E.PV.fieldAddr fa30_0 rfl rfl) ?_)
                      all_goals (refine E.AW.first 7 rfl (by kernel_rfl) (by kernel_rfl) (by kernel_rfl) rfl rfl rfl (E.PV.load (i := 9) na3 rfl rfl rfl rfl) ?_)
                      all_goals (refine E.AW.first 8 rfl (by kernel_rfl) (by kernel_rfl) (by kernel_rfl) rfl rfl rfl (E.PV.eql rfl rfl rfl) ?_)
                      all_goals (refine E.AW.first 9 rfl (by kernel_rfl) (by kernel_rfl) (by kernel_rfl) rfl rfl rfl (E.PV.move rfl rfl) ?_)
                      all_goals (refine E.AW.split 84 rfl (fun hc => ?_) (fun hc => ?_) <;> (try simp only [E.b0, E.b1, E.b2, E.b3, E.b4, E.b5, E.b6, E.b7, E.b8, E.b9, E.b10, E.b11, E.b12, E.b13, E.b14, E.b15, E.b16, E.b17, E.b18, E.b19, E.b20, reduceCtorEq] at hc) <;> (try (exfalso; first | assumption | contradiction | omega)))
                      all_goals (first | (refine E.AW.first_off 10 rfl (by kernel_rfl) (by kernel_rfl) (by kernel_rfl) rfl rfl rfl ?_) | (refine E.AW.first 10 rfl (by kernel_rfl) (by kernel_rfl) (by kernel_rfl) rfl rfl rfl (E.PV.load (i := 0) na3 rfl rfl rfl rfl) ?_))
                      all_goals (first | (refine E.AW.first_off 11 rfl (by kernel_rfl) (by kernel_rfl) (by kernel_rfl) rfl rfl rfl ?_) | (refine E.AW.first 11 rfl (by kernel_rfl) (by kernel_rfl) (by kernel_rfl) rfl rfl rfl (E.PV.fieldAddr fa30_1 rfl rfl) ?_))
                      all_goals (first | (refine E.AW.first_off 12 rfl (by kernel_rfl) (by kernel_rfl) (by kernel_rfl) rfl rfl rfl ?_) | (refine E.AW.first 12 rfl (by kernel_rfl) (by kernel_rfl) (by kernel_rfl) rfl rfl rfl (E.PV.load (i := 9) na3 rfl rfl rfl rfl) ?_))
                      all_goals (first | (refine E.AW.first_off 13 rfl (by kernel_rfl) (by kernel_rfl) (by kernel_rfl) rfl rfl rfl ?_) | (refine E.AW.first 13 rfl (by kernel_rfl) (by kernel_rfl) (by kernel_rfl) rfl rfl rfl (E.PV.eql rfl rfl rfl) ?_))
                      all_goals (first | (refine E.AW.first 14 rfl (by kernel_rfl) (by kernel_rfl) (by kernel_rfl) rfl rfl rfl (E.PV.pick_t rfl rfl rfl) ?_) | (refine E.AW.first 14 rfl (by kernel_rfl) (by kernel_rfl) (by kernel_rfl) rfl rfl rfl (E.PV.pick_f rfl rfl rfl) ?_))
                      all_goals (refine E.AW.first 15 rfl (by kernel_rfl) (by kernel_rfl) (by kernel_rfl) rfl rfl rfl (E.PV.move rfl rfl) ?_)
                      all_goals (first | (refine E.AW.put 90 (.bool true) (v := .bool true) rfl rfl ?_) | (refine E.AW.split 90 rfl (fun hc => ?_) (fun hc => ?_) <;> (try simp only [E.b0, E.b1, E.b2, E.b3, E.b4, E.b5, E.b6, E.b7, E.b8, E.b9, E.b10, E.b11, E.b12, E.b13, E.b14, E.b15, E.b16, E.b17, E.b18, E.b19, E.b20, reduceCtorEq] at hc) <;> (try (exfalso; first | assumption | contradiction | omega))))
                      all_goals (first | (refine E.AW.first_off 16 rfl (by kernel_rfl) (by kernel_rfl) (by kernel_rfl) rfl rfl rfl ?_) | (refine E.AW.first 16 rfl (by kernel_rfl) (by kernel_rfl) (by kernel_rfl) rfl rfl rfl (E.PV.move rfl rfl) ?_))
                      all_goals (first | (refine E.AW.first_off 17 rfl (by kernel_rfl) (by kernel_rfl) (by kernel_rfl) rfl rfl rfl ?_) | (refine E.AW.first 17 rfl (by kernel_rfl) (by kernel_rfl) (by kernel_rfl) rfl rfl rfl (E.PV.load (i := 0) na3 rfl rfl rfl rfl) ?_))
                      all_goals (first | (refine E.AW.first_off 18 rfl (by kernel_rfl) (by kernel_rfl) (by kernel_rfl) rfl rfl rfl ?_) | (refine E.AW.first 18 rfl (by kernel_rfl) (by kernel_rfl) (by kernel_rfl) rfl rfl rfl (E.PV.indexAddrA Try.underlying89 in4 rfl rfl rfl rfl ?_) ?_; (focus (omega))))
                      all_goals (first | (refine E.AW.first_off 19 rfl (by kernel_rfl) (by kernel_rfl) (by kernel_rfl) rfl rfl rfl ?_) | (refine E.AW.first 19 rfl (by kernel_rfl) (by kernel_rfl) (by kernel_rfl) rfl rfl rfl (E.PV.load_bl (E.rdr (i := 2) rfl) na4 rfl rfl ?_) ?_; (focus (omega))))
                      all_goals (first | (refine E.AW.first 20 rfl (by kernel_rfl) (by kernel_rfl) (by kernel_rfl) rfl rfl rfl (E.PV.pick_t rfl rfl rfl) ?_) | (refine E.AW.first 20 rfl (by kernel_rfl) (by kernel_rfl) (by kernel_rfl) rfl rfl rfl (E.PV.pick_f rfl rfl rfl) ?_))
                      all_goals (refine E.AW.first 21 rfl (by kernel_rfl) (by kernel_rfl) (by kernel_rfl) rfl rfl rfl (E.PV.move rfl rfl) ?_)
                      all_goals (first | (refine E.AW.put 96 (.bool true) (v := .bool true) rfl rfl ?_) | (refine E.AW.split 96 rfl (fun hc => ?_) (fun hc => ?_) <;> (try simp only [E.b0, E.b1, E.b2, E.b3, E.b4, E.b5, E.b6, E.b7, E.b8, E.b9, E.b10, E.b11, E.b12, E.b13, E.b14, E.b15, E.b16, E.b17, E.b18, E.b19, E.b20, reduceCtorEq] at hc) <;> (try (exfalso; first | assumption | contradiction | omega))))
                      all_goals (first | (refine E.AW.first_off 22 rfl (by kernel_rfl) (by kernel_rfl) (by kernel_rfl) rfl rfl rfl ?_) | (refine E.AW.first 22 rfl (by kernel_rfl) (by kernel_rfl) (by kernel_rfl) rfl rfl rfl (E.PV.move rfl rfl) ?_))
                      all_goals (first | (refine E.AW.first_off 23 rfl (by kernel_rfl) (by kernel_rfl) (by kernel_rfl) rfl rfl rfl ?_) | (refine E.AW.first 23 rfl (by kernel_rfl) (by kernel_rfl) (by kernel_rfl) rfl rfl rfl (E.PV.load (i := 0) na3 rfl rfl rfl rfl) ?_))
                      all_goals (first | (refine E.AW.first_off 24 rfl (by kernel_rfl) (by kernel_rfl) (by kernel_rfl) rfl rfl rfl ?_) | (refine E.AW.first 24 rfl (by kernel_rfl) (by kernel_rfl) (by kernel_rfl) rfl rfl rfl (E.PV.indexAddrA Try.underlying89 in4 rfl rfl rfl rfl ?_) ?_; (focus (omega))))
                      all_goals (first | (refine E.AW.first_off 25 rfl (by kernel_rfl) (by kernel_rfl) (by kernel_rfl) rfl rfl rfl ?_) | (refine E.AW.first 25 rfl (by kernel_rfl) (by kernel_rfl) (by kernel_rfl) rfl rfl rfl (E.PV.load_bl (E.rdr (i := 1) rfl) na4 rfl rfl ?_) ?_; (focus (omega))))
                      all_goals (first | (refine E.AW.first_off 26 rfl (by kernel_rfl) (by kernel_rfl) (by kernel_rfl) rfl rfl rfl ?_) | (refine E.AW.first 26 rfl (by kernel_rfl) (by kernel_rfl) (by kernel_rfl) rfl rfl rfl (E.PV.move rfl rfl) ?_))
                      all_goals (first | (refine E.AW.put 101 (.tuple #[]) (v := .tuple #[]) rfl rfl ?_) | (refine E.AW.split 101 rfl (fun hc => ?_) (fun hc => ?_) <;> (try simp only [E.b0, E.b1, E.b2, E.b3, E.b4, E.b5, E.b6, E.b7, E.b8, E.b9, E.b10, E.b11, E.b12, E.b13, E.b14, E.b15, E.b16, E.b17, E.b18, E.b19, E.b20, reduceCtorEq] at hc) <;> (try (exfalso; first | assumption | contradiction | omega))))
                      all_goals (first | (refine E.AW.first_off 27 rfl (by kernel_rfl) (by kernel_rfl) (by kernel_rfl) rfl rfl rfl ?_) | (refine E.AW.first 27 rfl (by kernel_rfl) (by kernel_rfl) (by kernel_rfl) rfl rfl rfl (E.PV.move rfl rfl) ?_))
                      all_goals (first | (refine E.AW.first_off 28 rfl (by kernel_rfl) (by kernel_rfl) (by kernel_rfl) rfl rfl rfl ?_) | (refine E.AW.first 28 rfl (by kernel_rfl) (by kernel_rfl) (by kernel_rfl) rfl rfl rfl (E.PV.load (i := 0) na3 rfl rfl rfl rfl) ?_))
                      all_goals (first | (refine E.AW.first_off 29 rfl (by kernel_rfl) (by kernel_rfl) (by kernel_rfl) rfl rfl rfl ?_) | (refine E.AW.first 29 rfl (by kernel_rfl) (by kernel_rfl) (by kernel_rfl) rfl rfl rfl (E.PV.indexAddrA Try.underlying89 in4 rfl rfl rfl rfl ?_) ?_; (focus (omega))))
                      all_goals (first | (refine E.AW.first_off 30 rfl (by kernel_rfl) (by kernel_rfl) (by kernel_rfl) rfl rfl rfl ?_) | (refine E.AW.first 30 rfl (by kernel_rfl) (by kernel_rfl) (by kernel_rfl) rfl rfl rfl (E.PV.load_bl (E.rdr (i := 6) rfl) na4 rfl rfl ?_) ?_; (focus (omega))))
                      all_goals (first | (refine E.AW.first_off 31 rfl (by kernel_rfl) (by kernel_rfl) (by kernel_rfl) rfl rfl rfl ?_) | (refine E.AW.first 31 rfl (by kernel_rfl) (by kernel_rfl) (by kernel_rfl) rfl rfl rfl (E.PV.not rfl rfl) ?_))
                      all_goals (first | (refine E.AW.first_off 32 rfl (by kernel_rfl) (by kernel_rfl) (by kernel_rfl) rfl rfl rfl ?_) | (first | (refine E.AW.first 32 rfl (by kernel_rfl) (by kernel_rfl) (by kernel_rfl) rfl rfl rfl (E.PV.pick_t rfl rfl rfl) ?_) | (refine E.AW.first 32 rfl (by kernel_rfl) (by kernel_rfl) (by kernel_rfl) rfl rfl rfl (E.PV.pick_f rfl rfl rfl) ?_)))
                      all_goals (first | (refine E.AW.first 33 rfl (by kernel_rfl) (by kernel_rfl) (by kernel_rfl) rfl rfl rfl (E.PV.pick_t rfl rfl rfl) ?_) | (refine E.AW.first 33 rfl (by kernel_rfl) (by kernel_rfl) (by kernel_rfl) rfl rfl rfl (E.PV.pick_f rfl rfl rfl) ?_))
                      all_goals (refine E.AW.first 34 rfl (by kernel_rfl) (by kernel_rfl) (by kernel_rfl) rfl rfl rfl (E.PV.indexAddrA Try.underlying89 in4 rfl rfl rfl rfl ?_) ?_; (focus (omega)))
                      all_goals (refine E.AW.one 35 (by kernel_rfl) rfl ?_)
                      all_goals (refine E.OW.store_bl (i := 0) in4.size rfl rfl rfl rfl rfl rfl ?_ ?_; (focus (omega)))
                      all_goals (first | (refine E.AW.nil [1, 1, 1, 1, 1, 1, 1, 1, 1, 1, 1] rfl ?_) | (refine E.AW.nil [2, 2, 2, 2, 2, 2, 2, 2, 2, 2, 2] rfl ?_) | (refine E.AW.nil [3, 3, 3, 3, 3, 3, 3, 3, 3, 3, 3] rfl ?_) | (refine E.AW.nil [4, 4, 4, 4, 4, 4, 4, 4, 4, 4, 4] rfl ?_) | (refine E.AW.nil [5, 5, 5, 5, 5, 5, 5, 5, 5, 5, 5] rfl ?_) | (refine E.AW.nil [6, 6, 6, 6, 6, 6, 6, 6, 6, 6, 6] rfl ?_) | (refine E.AW.nil [7, 7, 7, 7, 7, 7, 7, 7, 7, 7, 7] rfl ?_) | (refine E.AW.nil [0, 0, 0, 0, 0, 0, 0, 0, 0, 0, 0] rfl ?_) | (refine E.AW.nil [0, 0, 0, 0, 0, 0, 0, 0, 0, 0, 0] rfl ?_))
                      all_goals (refine E.AW.done (by kernel_rfl) ?_)
                      all_goals (
                        skip
                        refine E.then_nf ?_
                        refine ⟨[], [0, 0, 0, 0, 0, 0, 0, 0, 0, 0, 0, 0], [_], by repeat (first | exact E.cov_nil | refine ⟨rfl, ?_⟩), rfl, rfl, congrArg (fun r => [E.HP.row 4 1 (some ⟨QC, 0, .none⟩) g.l.length g.l.length (r)]) (E.ltb_set (by first | rfl | ((try simp only [E.ltb_at] at *); unfold Rt.has; simp_all [E.inl]))), trivial⟩)
                    · rintro _ _ ⟨rfl, rfl, hI⟩
                      refine E.CW.seq ?_
                      refine E.CW.region ?_
                      refine E.OW.pure rfl rfl rfl (E.PV.fieldAddr fa28_0 rfl rfl) ?_
                      refine E.OW.pure rfl rfl rfl (E.PV.loads (i := 11) is24 rfl rfl rfl rfl) ?_
                      refine E.OW.pure rfl rfl rfl (E.PV.load (i := 1) na3 rfl rfl rfl rfl) ?_
                      (refine E.OW.call nm101 rfl rfl rfl rfl rfl rfl _ (fun w hw => Ar_ok _ _ _ _ _ _ w) ?_; rintro _ _ ⟨Bp, Bf, rfl, rfl⟩)
                      refine E.OW.nil ?_
                      refine E.then_n ?_
                      refine E.CW.block ?_
                      refine E.CW.conv (E.cv_nbin [10, 3, 9, 5, 5, 0, 0, 0, 0, 0, 0, 0, 0, 0] rfl hNA) ?_
                      have hhas := Rt.has_at hL.c (show i < g.l.length by omega)
                      refine E.CW.range (p := E.HP.nb B8 PB B914 g.l.length (some ⟨QN, 0, .none⟩) [.int .i64 (g.s.length : Int), .slice (some ⟨QC, 0, .none⟩) g.l.length g.l.length, .slice none 0 0, .slice none 0 0, .slice (some ⟨QN, 0, .none⟩) g.l.length g.l.length] i Xn ln un xs) (xs := Rt.nearI g.a g.b (i : Int)) (ds := ds) [8, 14] rfl rfl rfl rfl rfl nm126 rfl rfl 0 5 rfl rfl ?_ ?_ ?_
                      · intro w S L q hw hY hS hb hc
                        exact ArI_ok g.a g.b (i : Int) _ Bp Bf L q S w hhas hY hS (fun k hk => (hb k hk).1) (E.blk_in hc (i := 0) rfl) (E.blk_in hc (i := 1) rfl)
                      · intro L pre x rest hxs
                        have hpl := Rt.near_pre hxs
                        refine ⟨[(16, .int .i64 x), (8, .pointer (some ⟨B8, 0, none⟩)), (14, .pointer (some ⟨B914, 0, none⟩))], fun W F9 => ?_, fun W F9 => ?_⟩
                        · skip
                          refine E.CW.region ?_
                          refine E.OW.pure rfl rfl rfl (E.PV.assign rfl rfl) ?_
                          refine E.OW.nil ?_
                          exact ⟨rfl, (by repeat (first | exact E.cov_nil | refine ⟨rfl, ?_⟩)), rfl⟩
                        · skip
                          refine E.CW.nbout rfl (by omega) (fun AR uR => ?_)
                          refine E.CW.block ?_
                          refine E.CW.drawx mixed [2, 2, 2] rfl ?_
                          all_goals (refine E.AW.first 0 rfl (by kernel_rfl) (by kernel_rfl) (by kernel_rfl) rfl rfl rfl (E.PV.load (i := 0) na87 rfl rfl rfl rfl) ?_)
                          all_goals (refine E.AW.first 1 rfl (by kernel_rfl) (by kernel_rfl) (by kernel_rfl) rfl rfl rfl (E.PV.nilCheck rfl rfl) ?_)
                          all_goals (refine E.AW.first 2 rfl (by kernel_rfl) (by kernel_rfl) (by kernel_rfl) rfl rfl rfl (E.PV.fieldAddr fa93_4 rfl rfl) ?_)
                          all_goals (refine E.AW.first 3 rfl (by kernel_rfl) (by kernel_rfl) (by kernel_rfl) rfl rfl rfl (E.PV.load (i := 2) na91 rfl rfl rfl rfl) ?_)
                          all_goals (refine E.AW.first 4 rfl (by kernel_rfl) (by kernel_rfl) (by kernel_rfl) rfl rfl rfl (E.PV.load (i := 1) na3 rfl rfl rfl rfl) ?_)
                          all_goals (refine E.AW.first 5 rfl (by kernel_rfl) (by kernel_rfl) (by kernel_rfl) rfl rfl rfl (E.PV.load (i := 0) na87 rfl rfl rfl rfl) ?_)
                          all_goals (refine E.AW.first 6 rfl (by kernel_rfl) (by kernel_rfl) (by kernel_rfl) rfl rfl rfl (E.PV.nilCheck rfl rfl) ?_)
                          all_goals (refine E.AW.first 7 rfl (by kernel_rfl) (by kernel_rfl) (by kernel_rfl) rfl rfl rfl (E.PV.fieldAddr fa93_4 rfl rfl) ?_)
                          all_goals (refine E.AW.first 8 rfl (by kernel_rfl) (by kernel_rfl) (by kernel_rfl) rfl rfl rfl (E.PV.load (i := 2) na91 rfl rfl rfl rfl) ?_)
                          all_goals (refine E.AW.first 9 rfl (by kernel_rfl) (by kernel_rfl) (by kernel_rfl) rfl rfl rfl (E.PV.load (i := 1) na3 rfl rfl rfl rfl) ?_)
                          all_goals (refine E.AW.first 10 rfl (by kernel_rfl) (by kernel_rfl) (by kernel_rfl) rfl rfl rfl (E.PV.indexAddrA Try.underlying91 in31 rfl rfl rfl rfl ?_) ?_; (focus (omega)))
                          all_goals (refine E.AW.first 12 rfl (by kernel_rfl) (by kernel_rfl) (by kernel_rfl) rfl rfl rfl (E.PV.move rfl rfl) ?_)
                          all_goals (
                            refine E.AW.two 11 13 (by kernel_rfl) rfl rfl ?ga8 ?gb8
                            case' ga8 =>
                                all_goals (refine E.OW.pure rfl rfl rfl (E.PV.load_s2 (E.rdr (i := 5) rfl) na31 rfl rfl ?_) ?_; (focus (omega)))
                                all_goals (first | (refine E.AW.nil [2, 2, 2] rfl ?_) | (refine E.AW.nil [3, 3, 3] rfl ?_) | (refine E.AW.nil [4, 4, 4] rfl ?_) | (refine E.AW.nil [5, 5, 5] rfl ?_) | (refine E.AW.nil [6, 6, 6] rfl ?_) | (refine E.AW.nil [7, 7, 7] rfl ?_) | (refine E.AW.nil [8, 8, 8] rfl ?_) | (refine E.AW.nil [1, 1, 1] rfl ?_) | (refine E.AW.nil [0, 0, 0] rfl ?_))
                                all_goals (refine E.AW.one 13 (by kernel_rfl) rfl ?_)
                                all_goals (refine E.OW.buildSlice (Et := 3) (sz := 1) (ps := [(0, .tmp 127)]) rfl rfl rfl rfl rfl (by simp) (by unfold maxLen; omega) (fun w => bsl31_1_0 _ w) (fun A34 => ?_))
                                all_goals (first | (refine E.AW.nil [2, 2, 2] rfl ?_) | (refine E.AW.nil [3, 3, 3] rfl ?_) | (refine E.AW.nil [4, 4, 4] rfl ?_) | (refine E.AW.nil [5, 5, 5] rfl ?_) | (refine E.AW.nil [6, 6, 6] rfl ?_) | (refine E.AW.nil [7, 7, 7] rfl ?_) | (refine E.AW.nil [8, 8, 8] rfl ?_) | (refine E.AW.nil [1, 1, 1] rfl ?_) | (refine E.AW.nil [0, 0, 0] rfl ?_))
                                all_goals (refine E.AW.put 126 (.slice AR pre.length uR) rfl (by simp only [E.up_same]) ?_)
                                all_goals (refine E.AW.one 14 (by kernel_rfl) rfl ?_)
                                all_goals (refine E.OW.app_int1 (j := 0) (i := 0) Try.underlying31 in3 rfl rfl rfl rfl rfl rfl rfl rfl rfl rfl ?_ (fun A35 c35 => ?_); (focus ((first | omega | (simp only [List.length_append, List.length_cons, List.length_nil] at *; omega) | (unfold maxLen at *; omega)))))
                                all_goals (first | (refine E.AW.nil [2, 2, 2] rfl ?_) | (refine E.AW.nil [3, 3, 3] rfl ?_) | (refine E.AW.nil [4, 4, 4] rfl ?_) | (refine E.AW.nil [5, 5, 5] rfl ?_) | (refine E.AW.nil [6, 6, 6] rfl ?_) | (refine E.AW.nil [7, 7, 7] rfl ?_) | (refine E.AW.nil [8, 8, 8] rfl ?_) | (refine E.AW.nil [1, 1, 1] rfl ?_) | (refine E.AW.nil [0, 0, 0] rfl ?_))
                                all_goals (refine E.AW.first 15 rfl (by kernel_rfl) (by kernel_rfl) (by kernel_rfl) rfl rfl rfl (E.PV.indexAddrA Try.underlying91 in31 rfl rfl rfl rfl ?_) ?_; (focus (omega)))
                                all_goals (refine E.AW.one 16 (by kernel_rfl) rfl ?_)
                                all_goals (refine E.OW.store_s2 (i := 5) in31.size rfl rfl rfl rfl rfl rfl ?_ ?_; (focus (omega)))
                                all_goals (first | (refine E.AW.nil [2, 2, 2] rfl ?_) | (refine E.AW.nil [3, 3, 3] rfl ?_) | (refine E.AW.nil [4, 4, 4] rfl ?_) | (refine E.AW.nil [5, 5, 5] rfl ?_) | (refine E.AW.nil [6, 6, 6] rfl ?_) | (refine E.AW.nil [7, 7, 7] rfl ?_) | (refine E.AW.nil [8, 8, 8] rfl ?_) | (refine E.AW.nil [1, 1, 1] rfl ?_) | (refine E.AW.nil [0, 0, 0] rfl ?_))
                                all_goals (refine E.AW.conv (E.cv_nbback (post := pre ++ [x]) [1, 1, 1, 1, 1, 0] (by omega) rfl rfl rfl) ?_)
                                all_goals (refine E.AW.done (by kernel_rfl) ?_)
                            case' gb8 =>
                                all_goals (refine E.OW.buildSlice (Et := 3) (sz := 1) (ps := [(0, .tmp 127)]) rfl rfl rfl rfl rfl (by simp) (by unfold maxLen; omega) (fun w => bsl31_1_0 _ w) (fun A36 => ?_))
                                all_goals (first | (refine E.AW.nil [2, 2, 2] rfl ?_) | (refine E.AW.nil [3, 3, 3] rfl ?_) | (refine E.AW.nil [4, 4, 4] rfl ?_) | (refine E.AW.nil [5, 5, 5] rfl ?_) | (refine E.AW.nil [6, 6, 6] rfl ?_) | (refine E.AW.nil [7, 7, 7] rfl ?_) | (refine E.AW.nil [8, 8, 8] rfl ?_) | (refine E.AW.nil [1, 1, 1] rfl ?_) | (refine E.AW.nil [0, 0, 0] rfl ?_))
                                all_goals (refine E.AW.one 11 (by kernel_rfl) rfl ?_)
                                all_goals (refine E.OW.pure rfl rfl rfl (E.PV.load_s2 (E.rdr (i := 6) rfl) na31 rfl rfl ?_) ?_; (focus (omega)))
                                all_goals (first | (refine E.AW.nil [2, 2, 2] rfl ?_) | (refine E.AW.nil [3, 3, 3] rfl ?_) | (refine E.AW.nil [4, 4, 4] rfl ?_) | (refine E.AW.nil [5, 5, 5] rfl ?_) | (refine E.AW.nil [6, 6, 6] rfl ?_) | (refine E.AW.nil [7, 7, 7] rfl ?_) | (refine E.AW.nil [8, 8, 8] rfl ?_) | (refine E.AW.nil [1, 1, 1] rfl ?_) | (refine E.AW.nil [0, 0, 0] rfl ?_))
                                all_goals (refine E.AW.put 126 (.slice AR pre.length uR) rfl (by simp only [E.up_same]) ?_)
                                all_goals (refine E.AW.one 14 (by kernel_rfl) rfl ?_)
                                all_goals (refine E.OW.app_int1 (j := 0) (i := 0) Try.underlying31 in3 rfl rfl rfl rfl rfl rfl rfl rfl rfl rfl ?_ (fun A37 c37 => ?_); (focus ((first | omega | (simp only [List.length_append, List.length_cons, List.length_nil] at *; omega) | (unfold maxLen at *; omega)))))
                                all_goals (first | (refine E.AW.nil [2, 2, 2] rfl ?_) | (refine E.AW.nil [3, 3, 3] rfl ?_) | (refine E.AW.nil [4, 4, 4] rfl ?_) | (refine E.AW.nil [5, 5, 5] rfl ?_) | (refine E.AW.nil [6, 6, 6] rfl ?_) | (refine E.AW.nil [7, 7, 7] rfl ?_) | (refine E.AW.nil [8, 8, 8] rfl ?_) | (refine E.AW.nil [1, 1, 1] rfl ?_) | (refine E.AW.nil [0, 0, 0] rfl ?_))
                                all_goals (refine E.AW.first 15 rfl (by kernel_rfl) (by kernel_rfl) (by kernel_rfl) rfl rfl rfl (E.PV.indexAddrA Try.underlying91 in31 rfl rfl rfl rfl ?_) ?_; (focus (omega)))
                                all_goals (refine E.AW.one 16 (by kernel_rfl) rfl ?_)
                                all_goals (refine E.OW.store_s2 (i := 5) in31.size rfl rfl rfl rfl rfl rfl ?_ ?_; (focus (omega)))
                                all_goals (first | (refine E.AW.nil [2, 2, 2] rfl ?_) | (refine E.AW.nil [3, 3, 3] rfl ?_) | (refine E.AW.nil [4, 4, 4] rfl ?_) | (refine E.AW.nil [5, 5, 5] rfl ?_) | (refine E.AW.nil [6, 6, 6] rfl ?_) | (refine E.AW.nil [7, 7, 7] rfl ?_) | (refine E.AW.nil [8, 8, 8] rfl ?_) | (refine E.AW.nil [1, 1, 1] rfl ?_) | (refine E.AW.nil [0, 0, 0] rfl ?_))
                                all_goals (refine E.AW.conv (E.cv_nbback (post := pre ++ [x]) [1, 1, 1, 1, 1, 0] (by omega) rfl rfl rfl) ?_)
                                all_goals (refine E.AW.done (by kernel_rfl) ?_))
                          all_goals (
                            skip
                            refine E.blk_n ?_
                            exact ⟨rfl, [0], rfl⟩)
                      · intro DM
                        refine E.blk_n ?_
                        refine E.blk_n ?_
                        refine E.then_n ?_
                        refine E.CW.sels [1, 0, 0, 0, 0, 0, 0, 0, 0, 0] rfl ?_
                        refine E.CW.nbend rfl (fun AE uE => ?_)
                        have hnn : Rt.nearI g.a g.b (i : Int) = E.nn (Rt.G g.q t a b) i := (Rt.nn_near g.q i).symm
                        rw [hnn]
                        refine E.CW.region ?_
                        refine E.OW.pure rfl rfl rfl (E.PV.add_i64 rfl rfl rfl ?_) ?_; (focus (omega))
                        refine E.OW.pure rfl rfl rfl (E.PV.move rfl rfl) ?_
                        refine E.OW.nil ?_
                        refine E.then_nf ?_
                        refine ⟨_, [(58, _), (9999, _)], [9, 9, 8, 3, 3, 3, 5, 0, 1, 3, 3], [_, _, _, _, _, _], ?_, by repeat (first | exact E.cov_nil | refine ⟨rfl, ?_⟩), rfl, i + 1, _, _, _, _, _, rfl, rfl, rfl, by omega, hNA.next _ _⟩
                        omega))
              · simp only [E.b0, E.b1, E.b2, E.b3, E.b4, E.b5, E.b6, E.b7, E.b8, E.b9, E.b10, E.b11, E.b12, E.b13, E.b14, E.b15, E.b16, E.b17, E.b18, E.b19, E.b20, reduceCtorEq] at hc
                all_goals (
                  refine E.CW.exit ?_
                  refine E.then_x ?_
                  refine E.then_x ?_
                  refine E.blk_eq ?_
                  refine E.then_n ?_
                  refine E.CW.seq ?_
                  refine E.CW.seq ?_
                  obtain rfl : i = g.l.length := by omega
                  refine E.CW.conv (E.cv_chunk 2 (E.HP.row 4 1 (some ⟨QC, 0, .none⟩) g.l.length g.l.length (E.bls g.l.length ((fun j => Rt.has g.q t a b (j : Int))))) rfl (by rw [E.ltb_all])) ?_
                  refine E.CW.conv (E.cv_chunk 1 (E.HP.row 4 1 (some ⟨QO, 0, .none⟩) g.l.length g.l.length (E.bls g.l.length ((fun j => Rt.mine g.q t (j : Int))))) rfl (by rw [E.ltb_all])) ?_
                  refine E.CW.conv (E.cv_chunk 2 (E.HP.row 4 1 (some ⟨QI, 0, .none⟩) g.l.length g.l.length (E.bls g.l.length ((fun j => Rt.aisle g.q (j : Int))))) rfl (by rw [E.ltb_all])) ?_
                  refine E.CW.conv (E.cv_chunk 3 (E.HP.row 31 1 (some ⟨QN, 0, .none⟩) g.l.length g.l.length (E.slc2 g.l.length Xn (fun p => ((Rt.G g.q t a b).nr p).length) un)) rfl (by rw [E.slc2_congr fun j hj => ⟨rfl, (hNA.d j hj).1, rfl⟩])) ?_
                  refine E.CW.conv (E.cv_chunk 4 (E.HP.rows 3 g.l.length Xn (fun p => ((Rt.G g.q t a b).nr p).length) un (fun p => E.ints (E.nn (Rt.G g.q t a b) p))) rfl (E.rows_congr fun j hj => ⟨rfl, (hNA.d j hj).1, rfl, (hNA.d j hj).2⟩)) ?_
                  refine E.CW.nilrow 31 1 ?_
                  refine E.CW.rows_nil (Et := 3) (A := fun _ => none) (len := fun _ => g.l.length) (c := fun _ => 0) (xs := (fun (_ : Nat) => E.iis g.l.length fun _ => -1)) ?_
                  refine E.CW.nilrow 89 1 ?_
                  refine E.CW.rows_nil (Et := 4) (A := fun _ => none) (len := fun _ => g.l.length) (c := fun _ => 0) (xs := (fun (k : Nat) => E.bls g.l.length ((fun j => Rt.alw g.q t a b (k : Int) (j : Int))))) ?_
                  refine E.CW.region ?_
                  refine E.OW.pure rfl rfl rfl (E.PV.load (i := 11) na87 rfl rfl rfl rfl) ?_
                  refine E.OW.pure rfl rfl rfl (E.PV.nilCheck rfl rfl) ?_
                  refine E.OW.pure rfl rfl rfl (E.PV.fieldAddr fa93_0 rfl rfl) ?_
                  refine E.OW.pure rfl rfl rfl (E.PV.load (i := 12) na3 rfl rfl rfl rfl) ?_
                  refine E.OW.pure rfl rfl rfl (E.PV.move rfl rfl) ?_
                  refine E.OW.nil ?_
                  refine E.then_n ?_
                  refine E.CW.block ?_
                  refine E.CW.sels [12, 1, 0, 1, 0, 0, 0, 0, 0, 0, 0, 1, 1, 1] rfl ?_
                  refine E.CW.loopk [1, 3, 5, 7, 8, 12, 13, 135, 9999] 5 rfl rfl (fun mm mods Hm => ∃ k : Nat, ∃ Aa : Option Addr, ∃ ca : Nat, ∃ Xa : Nat → Option Addr, ∃ ua : Nat → Nat, ∃ Ad : Option Addr, ∃ cd : Nat, ∃ Xd : Nat → Option Addr, ∃ ud : Nat → Nat, mm = g.s.length - k ∧ mods = [(136, .int .i64 k)] ∧ Hm = [E.HP.blk PB 93 [.int .i64 (g.s.length : Int), .slice (some ⟨QC, 0, .none⟩) g.l.length g.l.length, .slice Aa k ca, .slice Ad k cd, .slice (some ⟨QN, 0, .none⟩) g.l.length g.l.length], E.HP.row 89 1 Aa (k) ca (E.slc2 (k) Xa (fun _ => g.l.length) ua), E.HP.rows 4 (k) Xa (fun _ => g.l.length) ua (fun (k : Nat) => E.bls g.l.length ((fun j => Rt.alw g.q t a b (k : Int) (j : Int)))), E.HP.row 31 1 Ad (k) cd (E.slc2 (k) Xd (fun _ => g.l.length) ud), E.HP.rows 3 (k) Xd (fun _ => g.l.length) ud (fun (_ : Nat) => E.iis g.l.length fun _ => -1)] ∧ k ≤ g.s.length) (g.s.length) ?_ ?_
                  · exact ⟨[(136, _)], (by repeat (first | exact E.cov_nil | refine ⟨rfl, ?_⟩)), 0, _, _, _, _, _, _, _, _, rfl, rfl, rfl, by omega⟩
                  · rintro _ _ _ ⟨k, Aa, ca, Xa, ua, Ad, cd, Xd, ud, rfl, rfl, rfl, hk⟩
                    refine E.CW.seq ?_
                    refine E.CW.region ?_
                    refine E.OW.pure rfl rfl rfl (E.PV.lss rfl rfl rfl) ?_
                    refine E.OW.nil ?_
                    refine E.then_n ?_
                    refine E.CW.seq ?_
                    refine E.CW.cond rfl (fun hc => ?_) (fun hc => ?_)
                    · simp only [E.b0, E.b1, E.b2, E.b3, E.b4, E.b5, E.b6, E.b7, E.b8, E.b9, E.b10, E.b11, E.b12, E.b13, E.b14, E.b15, E.b16, E.b17, E.b18, E.b19, E.b20, reduceCtorEq] at hc
                      all_goals (
                        refine E.CW.skip ?_
                        refine E.then_n ?_
                        refine E.CW.seq ?_
                        refine E.CW.block ?_
                        refine E.CW.seq ?_
                        refine E.CW.region ?_
                        refine E.OW.pure rfl rfl rfl (E.PV.move rfl rfl) ?_
                        refine E.OW.pure rfl rfl rfl (E.PV.assign rfl rfl) ?_
                        refine E.OW.nil ?_
                        refine E.then_n ?_
                        refine E.CW.cut [1, 3, 5, 7, 8, 12, 13, 17, 135, 136, 9999] 0 rfl rfl (fun mods Hm => ∃ Ar : Option Addr, ∃ Af : Option Addr, mods = [(18, .slice Ar g.l.length g.l.length), (19, .slice Af g.l.length g.l.length)] ∧ Hm = [E.HP.row 4 1 Ar g.l.length g.l.length (E.bls g.l.length (fun _ => false)), E.HP.row 3 1 Af g.l.length g.l.length (E.iis g.l.length fun _ => 0)] ∧ True) ?_ ?_
                        · skip
                          refine E.CW.drawx mixed [] rfl ?_
                          all_goals (refine E.AW.first 0 rfl (by kernel_rfl) (by kernel_rfl) (by kernel_rfl) rfl rfl rfl (E.PV.move rfl rfl) ?_)
                          all_goals (refine E.AW.first 2 rfl (by kernel_rfl) (by kernel_rfl) (by kernel_rfl) rfl rfl rfl (E.PV.move rfl rfl) ?_)
                          all_goals (
                            refine E.AW.two 1 3 (by kernel_rfl) rfl rfl ?ga9 ?gb9
                            case' ga9 =>
                                all_goals (refine E.OW.make_bl _ Try.underlying89 in4 rfl rfl rfl rfl rfl rfl rfl ?_ ?_ (fun A38 => ?_); (focus (unfold maxLen; omega)); (focus (omega)))
                                all_goals (refine E.AW.nil [] rfl ?_)
                                all_goals (refine E.AW.first 4 rfl (by kernel_rfl) (by kernel_rfl) (by kernel_rfl) rfl rfl rfl (E.PV.assign rfl rfl) ?_)
                                all_goals (refine E.AW.one 3 (by kernel_rfl) rfl ?_)
                                all_goals (refine E.OW.make_ii _ Try.underlying31 in3 rfl rfl rfl rfl rfl rfl rfl ?_ ?_ (fun A39 => ?_); (focus (unfold maxLen; omega)); (focus (omega)))
                                all_goals (refine E.AW.nil [] rfl ?_)
                                all_goals (refine E.AW.first 5 rfl (by kernel_rfl) (by kernel_rfl) (by kernel_rfl) rfl rfl rfl (E.PV.assign rfl rfl) ?_)
                                all_goals (refine E.AW.done (by kernel_rfl) ?_)
                            case' gb9 =>
                                all_goals (refine E.OW.make_ii _ Try.underlying31 in3 rfl rfl rfl rfl rfl rfl rfl ?_ ?_ (fun A40 => ?_); (focus (unfold maxLen; omega)); (focus (omega)))
                                all_goals (refine E.AW.nil [] rfl ?_)
                                all_goals (refine E.AW.one 1 (by kernel_rfl) rfl ?_)
                                all_goals (refine E.OW.make_bl _ Try.underlying89 in4 rfl rfl rfl rfl rfl rfl rfl ?_ ?_ (fun A41 => ?_); (focus (unfold maxLen; omega)); (focus (omega)))
                                all_goals (refine E.AW.nil [] rfl ?_)
                                all_goals (refine E.AW.first 4 rfl (by kernel_rfl) (by kernel_rfl) (by kernel_rfl) rfl rfl rfl (E.PV.assign rfl rfl) ?_)
                                all_goals (refine E.AW.first 5 rfl (by kernel_rfl) (by kernel_rfl) (by kernel_rfl) rfl rfl rfl (E.PV.assign rfl rfl) ?_)
                                all_goals (refine E.AW.done (by kernel_rfl) ?_))
                          all_goals (
                            skip
                            refine E.then_nf ?_
                            first | (refine ⟨[(18, _), (19, _)], [0, 0, 0, 0, 0, 0, 0, 0, 0, 0, 0, 0, 0, 0, 0, 0], _, ?_, rfl, _, _, rfl, rfl, trivial⟩; focus (repeat (first | exact E.cov_nil | refine ⟨rfl, ?_⟩)); done) | (refine ⟨[(18, _), (19, _)], [1, 0, 0, 0, 0, 0, 0, 0, 0, 0, 0, 0, 0, 0, 0, 0], _, ?_, rfl, _, _, rfl, rfl, trivial⟩; focus (repeat (first | exact E.cov_nil | refine ⟨rfl, ?_⟩)); done))
                        · rintro _ _ ⟨Ar, Af, rfl, rfl, hI⟩
                          refine E.CW.seq ?_
                          refine E.CW.region ?_
                          refine E.OW.pure rfl rfl rfl (E.PV.fieldAddr fa28_1 rfl rfl) ?_
                          refine E.OW.pure rfl rfl rfl (E.PV.load (i := 15) na22 rfl rfl rfl rfl) ?_
                          refine E.OW.pure rfl rfl rfl (E.PV.move rfl rfl) ?_
                          refine E.OW.pure rfl rfl rfl (E.PV.conv_in Try.underlying3 Try.underlying26 rfl rfl ?_) ?_; (focus (first | exact E.wrap_u8 _ | (simp only [IntKind.wrap_i64, IntKind.wrap_u64, IntKind.wrap_u8]; omega)))
                          (refine E.OW.call nm102 rfl rfl rfl rfl rfl rfl _ (fun w hw => SliceOwner_ok _ _ _ _ ?_ w ?_ ?_) ?_; (focus (omega)); (focus (omega)); (focus (refine hw.rd ?_; assumption)); rintro _ _ ⟨rfl, rfl⟩)
                          refine E.OW.pure rfl rfl rfl (E.PV.move rfl rfl) ?_
                          refine E.OW.pure rfl rfl rfl (E.PV.extract rfl rfl rfl) ?_
                          refine E.OW.pure rfl rfl rfl (E.PV.extract rfl rfl rfl) ?_
                          refine E.OW.pure rfl rfl rfl (E.PV.assign rfl rfl) ?_
                          refine E.OW.pure rfl rfl rfl (E.PV.assign rfl rfl) ?_
                          refine E.OW.nil ?_
                          refine E.then_n ?_
                          refine E.CW.seq ?_
                          refine E.CW.seq ?_
                          refine E.CW.row_some 0 rfl (by omega) (fun QR hQR => ?_)
                          subst hQR
                          refine E.CW.row_some 1 rfl (by omega) (fun QF hQF => ?_)
                          subst hQF
                          refine E.CW.region ?_
                          refine E.OW.pure rfl rfl rfl (E.PV.move rfl rfl) ?_
                          refine E.OW.pure rfl rfl rfl (E.PV.move rfl rfl) ?_
                          refine E.OW.nil ?_
                          refine E.then_n ?_
                          refine E.CW.block ?_
                          refine E.CW.sels [0, 0, 0, 0, 0, 0, 0, 0, 0, 0, 0, 0, 0, 0, 0, 0] rfl ?_
                          refine E.CW.loopk [1, 3, 5, 7, 8, 12, 13, 18, 19, 20, 135, 136, 151, 9999] 2 rfl rfl (fun mm mods Hm => ∃ j : Nat, mm = g.l.length - j ∧ mods = [(152, .int .i64 j)] ∧ Hm = [E.HP.row 4 1 (some ⟨QR, 0, .none⟩) g.l.length g.l.length (E.bls g.l.length (E.ltb j (fun j => Rt.alw g.q t a b (k : Int) (j : Int)))), E.HP.row 3 1 (some ⟨QF, 0, .none⟩) g.l.length g.l.length (E.iis g.l.length (fun i => if i < j then (-1 : Int) else 0))] ∧ j ≤ g.l.length) (g.l.length) ?_ ?_
                          · exact ⟨[(152, _)], (by repeat (first | exact E.cov_nil | refine ⟨rfl, ?_⟩)), 0, rfl, rfl, (by rw [← E.ltb_zero]; rfl), by omega⟩
                          · rintro _ _ _ ⟨j, rfl, rfl, rfl, hj⟩
                            refine E.CW.seq ?_
                            refine E.CW.region ?_
                            refine E.OW.pure rfl rfl rfl (E.PV.lss rfl rfl rfl) ?_
                            refine E.OW.nil ?_
                            refine E.then_n ?_
                            refine E.CW.seq ?_
                            refine E.CW.cond rfl (fun hc => ?_) (fun hc => ?_)
                            · simp only [E.b0, E.b1, E.b2, E.b3, E.b4, E.b5, E.b6, E.b7, E.b8, E.b9, E.b10, E.b11, E.b12, E.b13, E.b14, E.b15, E.b16, E.b17, E.b18, E.b19, E.b20, reduceCtorEq] at hc
                              all_goals (
                                refine E.CW.skip ?_
                                refine E.then_n ?_
                                refine E.CW.seq ?_
                                refine E.CW.block ?_
                                refine E.CW.seq ?_
                                refine E.CW.region ?_
                                refine E.OW.pure rfl rfl rfl (E.PV.move rfl rfl) ?_
                                refine E.OW.pure rfl rfl rfl (E.PV.assign rfl rfl) ?_
                                refine E.OW.nil ?_
                                refine E.then_n ?_
                                refine E.CW.cut [1, 3, 5, 7, 8, 12, 13, 18, 19, 20, 22, 135, 136, 151, 152, 9999] 1 rfl rfl (fun mods Hm =>  mods = [] ∧ Hm = [E.HP.row 4 1 (some ⟨QR, 0, .none⟩) g.l.length g.l.length (E.bls g.l.length (E.ltb (j + 1) (fun j => Rt.alw g.q t a b (k : Int) (j : Int))))] ∧ True) ?_ ?_
                                · skip
                                  refine E.CW.region ?_
                                  refine E.OW.pure rfl rfl rfl (E.PV.move rfl rfl) ?_
                                  refine E.OW.pure rfl rfl rfl (E.PV.move rfl rfl) ?_
                                  refine E.OW.pure rfl rfl rfl (E.PV.load (i := 13) na87 rfl rfl rfl rfl) ?_
                                  refine E.OW.pure rfl rfl rfl (E.PV.nilCheck rfl rfl) ?_
                                  refine E.OW.pure rfl rfl rfl (E.PV.fieldAddr fa93_1 rfl rfl) ?_
                                  refine E.OW.pure rfl rfl rfl (E.PV.load (i := 2) na89 rfl rfl rfl rfl) ?_
                                  refine E.OW.pure rfl rfl rfl (E.PV.move rfl rfl) ?_
                                  refine E.OW.pure rfl rfl rfl (E.PV.indexAddrA Try.underlying89 in4 rfl rfl rfl rfl ?_) ?_; (focus (omega))
                                  refine E.OW.pure rfl rfl rfl (E.PV.load_bl (E.rdr (i := 11) rfl) na4 rfl rfl ?_) ?_; (focus (omega))
                                  refine E.OW.pure rfl rfl rfl (E.PV.move rfl rfl) ?_
                                  all_goals (refine E.OW.split 164 rfl (fun hc => ?_) (fun hc => ?_) <;> (try simp only [E.b0, E.b1, E.b2, E.b3, E.b4, E.b5, E.b6, E.b7, E.b8, E.b9, E.b10, E.b11, E.b12, E.b13, E.b14, E.b15, E.b16, E.b17, E.b18, E.b19, E.b20, reduceCtorEq] at hc) <;> (try (exfalso; first | assumption | contradiction | omega)))
                                  all_goals (first | (refine E.OW.off rfl rfl rfl ?_) | (refine E.OW.pure rfl rfl rfl (E.PV.move rfl rfl) ?_))
                                  all_goals (first | (refine E.OW.off rfl rfl rfl ?_) | (refine E.OW.pure rfl rfl rfl (E.PV.move rfl rfl) ?_))
                                  all_goals (first | (refine E.OW.off rfl rfl rfl ?_) | (refine E.OW.pure rfl rfl rfl (E.PV.indexAddrA Try.underlying89 in4 rfl rfl rfl rfl ?_) ?_; (focus (omega))))
                                  all_goals (first | (refine E.OW.off rfl rfl rfl ?_) | (refine E.OW.pure rfl rfl rfl (E.PV.load_bl (E.rdr (i := 10) rfl) na4 rfl rfl ?_) ?_; (focus (omega))))
                                  all_goals (first | (refine E.OW.off rfl rfl rfl ?_) | (refine E.OW.pure rfl rfl rfl (E.PV.move rfl rfl) ?_))
                                  all_goals (first | (refine E.OW.put 169 (.tuple #[]) (v := .tuple #[]) rfl rfl ?_) | (refine E.OW.split 169 rfl (fun hc => ?_) (fun hc => ?_) <;> (try simp only [E.b0, E.b1, E.b2, E.b3, E.b4, E.b5, E.b6, E.b7, E.b8, E.b9, E.b10, E.b11, E.b12, E.b13, E.b14, E.b15, E.b16, E.b17, E.b18, E.b19, E.b20, reduceCtorEq] at hc) <;> (try (exfalso; first | assumption | contradiction | omega))))
                                  all_goals (first | (refine E.OW.off rfl rfl rfl ?_) | (refine E.OW.pure rfl rfl rfl (E.PV.move rfl rfl) ?_))
                                  all_goals (first | (refine E.OW.off rfl rfl rfl ?_) | (refine E.OW.pure rfl rfl rfl (E.PV.move rfl rfl) ?_))
                                  all_goals (first | (refine E.OW.off rfl rfl rfl ?_) | (refine E.OW.pure rfl rfl rfl (E.PV.indexAddrA Try.underlying89 in4 rfl rfl rfl rfl ?_) ?_; (focus (omega))))
                                  all_goals (first | (refine E.OW.off rfl rfl rfl ?_) | (refine E.OW.pure rfl rfl rfl (E.PV.load_bl (E.rdr (i := 9) rfl) na4 rfl rfl ?_) ?_; (focus (omega))))
                                  all_goals (first | (refine E.OW.off rfl rfl rfl ?_) | (refine E.OW.pure rfl rfl rfl (E.PV.move rfl rfl) ?_))
                                  all_goals (first | (refine E.OW.put 174 (.tuple #[]) (v := .tuple #[]) rfl rfl ?_) | (refine E.OW.split 174 rfl (fun hc => ?_) (fun hc => ?_) <;> (try simp only [E.b0, E.b1, E.b2, E.b3, E.b4, E.b5, E.b6, E.b7, E.b8, E.b9, E.b10, E.b11, E.b12, E.b13, E.b14, E.b15, E.b16, E.b17, E.b18, E.b19, E.b20, reduceCtorEq] at hc) <;> (try (exfalso; first | assumption | contradiction | omega))))
                                  all_goals (first | (refine E.OW.off rfl rfl rfl ?_) | (refine E.OW.pure rfl rfl rfl (E.PV.move rfl rfl) ?_))
                                  all_goals (first | (refine E.OW.off rfl rfl rfl ?_) | (refine E.OW.pure rfl rfl rfl (E.PV.move rfl rfl) ?_))
                                  all_goals (first | (refine E.OW.off rfl rfl rfl ?_) | (refine E.OW.pure rfl rfl rfl (E.PV.eql rfl rfl rfl) ?_))
                                  all_goals (first | (refine E.OW.off rfl rfl rfl ?_) | (first | (refine E.OW.pure rfl rfl rfl (E.PV.pick_t rfl rfl rfl) ?_) | (refine E.OW.pure rfl rfl rfl (E.PV.pick_f rfl rfl rfl) ?_)))
                                  all_goals (first | (refine E.OW.off rfl rfl rfl ?_) | (first | (refine E.OW.pure rfl rfl rfl (E.PV.pick_t rfl rfl rfl) ?_) | (refine E.OW.pure rfl rfl rfl (E.PV.pick_f rfl rfl rfl) ?_)))
                                  all_goals (first | (refine E.OW.pure rfl rfl rfl (E.PV.pick_t rfl rfl rfl) ?_) | (refine E.OW.pure rfl rfl rfl (E.PV.pick_f rfl rfl rfl) ?_))
                                  all_goals (refine E.OW.pure rfl rfl rfl (E.PV.indexAddrA Try.underlying89 in4 rfl rfl rfl rfl ?_) ?_; (focus (omega)))
                                  all_goals (refine E.OW.store_bl (i := 0) in4.size rfl rfl rfl rfl rfl rfl ?_ ?_; (focus (omega)))
                                  all_goals (
                                    refine E.OW.nil ?_
                                    refine E.then_nf ?_
                                    refine ⟨[], [0, 0, 0, 0, 0, 0, 0, 0, 0, 0, 0, 0, 0, 0, 0, 0], [_], by repeat (first | exact E.cov_nil | refine ⟨rfl, ?_⟩), rfl, rfl, congrArg (fun r => [E.HP.row 4 1 (some ⟨QR, 0, .none⟩) g.l.length g.l.length (r)]) (E.ltb_set (by first | rfl | (unfold Rt.alw; simp_all; try exact Iff.rfl))), trivial⟩)
                                · rintro _ _ ⟨rfl, rfl, hI⟩
                                  refine E.CW.region ?_
                                  refine E.OW.pure rfl rfl rfl (E.PV.move rfl rfl) ?_
                                  refine E.OW.pure rfl rfl rfl (E.PV.move rfl rfl) ?_
                                  refine E.OW.pure rfl rfl rfl (E.PV.indexAddrA Try.underlying31 in3 rfl rfl rfl rfl ?_) ?_; (focus (omega))
                                  refine E.OW.store_ii (i := 1) in3.size rfl rfl rfl rfl rfl rfl ?_ ?_; (focus (omega))
                                  refine E.OW.nil ?_
                                  refine E.blk_n ?_
                                  refine E.then_n ?_
                                  refine E.CW.region ?_
                                  refine E.OW.pure rfl rfl rfl (E.PV.add_i64 rfl rfl rfl ?_) ?_; (focus (omega))
                                  refine E.OW.pure rfl rfl rfl (E.PV.move rfl rfl) ?_
                                  refine E.OW.nil ?_
                                  refine E.then_nf ?_
                                  refine ⟨_, [(152, _)], [1, 0, 0, 0, 0, 0, 0, 0, 0, 0, 0, 0, 0, 0, 0, 0], [_, _], ?_, by repeat (first | exact E.cov_nil | refine ⟨rfl, ?_⟩), rfl, j + 1, rfl, rfl, (by rw [E.iis_set_m1]), by omega⟩
                                  omega)
                            · simp only [E.b0, E.b1, E.b2, E.b3, E.b4, E.b5, E.b6, E.b7, E.b8, E.b9, E.b10, E.b11, E.b12, E.b13, E.b14, E.b15, E.b16, E.b17, E.b18, E.b19, E.b20, reduceCtorEq] at hc
                              all_goals (
                                refine E.CW.exit ?_
                                refine E.then_x ?_
                                refine E.then_x ?_
                                refine E.blk_eq ?_
                                refine E.then_n ?_
                                refine E.CW.cut [1, 3, 5, 7, 8, 12, 13, 19, 135, 136, 9999] 5 rfl rfl (fun mods Hm => ∃ Aa2 : Option Addr, ∃ ca2 : Nat, mods = [] ∧ Hm = [E.HP.row 3 1 (some ⟨QF, 0, .none⟩) g.l.length g.l.length (E.iis g.l.length fun _ => -1), E.HP.blk PB 93 [.int .i64 (g.s.length : Int), .slice (some ⟨QC, 0, .none⟩) g.l.length g.l.length, .slice Aa2 (k + 1) ca2, .slice Ad k cd, .slice (some ⟨QN, 0, .none⟩) g.l.length g.l.length], E.HP.row 89 1 Aa2 (k + 1) ca2 (E.slc2 (k + 1) (E.up Xa k (some ⟨QR, 0, .none⟩)) (fun _ => g.l.length) (E.up ua k g.l.length)), E.HP.rows 4 (k + 1) (E.up Xa k (some ⟨QR, 0, .none⟩)) (fun _ => g.l.length) (E.up ua k g.l.length) (fun (k : Nat) => E.bls g.l.length ((fun j => Rt.alw g.q t a b (k : Int) (j : Int))))] ∧ True) ?_ ?_
                                · skip
                                  obtain rfl : j = g.l.length := by omega
                                  refine E.CW.conv (E.cv_chunk 1 (E.HP.row 3 1 (some ⟨QF, 0, .none⟩) g.l.length g.l.length (E.iis g.l.length fun _ => -1)) rfl (by rw [E.iis_congr fun i hi => if_pos hi])) ?_
                                  refine E.CW.conv (E.cv_chunk 1 (E.HP.row 4 1 (some ⟨QR, 0, .none⟩) g.l.length g.l.length (E.bls g.l.length ((fun j => Rt.alw g.q t a b (k : Int) (j : Int))))) rfl (by rw [E.ltb_all])) ?_
                                  refine E.CW.drawx mixed [13] rfl ?_
                                  all_goals (refine E.AW.first 0 rfl (by kernel_rfl) (by kernel_rfl) (by kernel_rfl) rfl rfl rfl (E.PV.load (i := 0) na87 rfl rfl rfl rfl) ?_)
                                  all_goals (refine E.AW.first 1 rfl (by kernel_rfl) (by kernel_rfl) (by kernel_rfl) rfl rfl rfl (E.PV.load (i := 0) na87 rfl rfl rfl rfl) ?_)
                                  all_goals (refine E.AW.first 2 rfl (by kernel_rfl) (by kernel_rfl) (by kernel_rfl) rfl rfl rfl (E.PV.nilCheck rfl rfl) ?_)
                                  all_goals (refine E.AW.first 3 rfl (by kernel_rfl) (by kernel_rfl) (by kernel_rfl) rfl rfl rfl (E.PV.fieldAddr fa93_2 rfl rfl) ?_)
                                  all_goals (refine E.AW.first 5 rfl (by kernel_rfl) (by kernel_rfl) (by kernel_rfl) rfl rfl rfl (E.PV.move rfl rfl) ?_)
                                  all_goals (
                                    refine E.AW.two 4 6 (by kernel_rfl) rfl rfl ?ga10 ?gb10
                                    case' ga10 =>
                                        all_goals (refine E.OW.pure rfl rfl rfl (E.PV.load (i := 2) na90 rfl rfl rfl rfl) ?_)
                                        all_goals (first | (refine E.AW.nil [13] rfl ?_) | (refine E.AW.nil [14] rfl ?_) | (refine E.AW.nil [15] rfl ?_) | (refine E.AW.nil [16] rfl ?_) | (refine E.AW.nil [17] rfl ?_) | (refine E.AW.nil [18] rfl ?_) | (refine E.AW.nil [19] rfl ?_) | (refine E.AW.nil [12] rfl ?_) | (refine E.AW.nil [11] rfl ?_))
                                        all_goals (refine E.AW.one 6 (by kernel_rfl) rfl ?_)
                                        all_goals (refine E.OW.buildSlice (Et := 89) (sz := 1) (ps := [(0, .tmp 191)]) rfl rfl rfl rfl rfl (by simp) (by unfold maxLen; omega) (fun w => bsl90_1_0 _ _ _ w) (fun A42 => ?_))
                                        all_goals (first | (refine E.AW.nil [13] rfl ?_) | (refine E.AW.nil [14] rfl ?_) | (refine E.AW.nil [15] rfl ?_) | (refine E.AW.nil [16] rfl ?_) | (refine E.AW.nil [17] rfl ?_) | (refine E.AW.nil [18] rfl ?_) | (refine E.AW.nil [19] rfl ?_) | (refine E.AW.nil [12] rfl ?_) | (refine E.AW.nil [11] rfl ?_))
                                        all_goals (refine E.AW.one 7 (by kernel_rfl) rfl ?_)
                                        all_goals (refine E.OW.append (i := 4) Try.underlying90 in89 rfl rfl (by decide) rfl rfl rfl rfl rfl rfl rfl (E.rdr (i := 0) rfl) ?_ ?_ ?_ ?_ (fun A43 c43 => ?_); (focus ((first | rfl | (simp; done) | omega))); (focus ((first | exact E.ints_one | exact E.u8s_one | (simp [Value.oneCell']; done)))); (focus ((unfold maxLen; omega))); (focus ((first | omega | (simp only [List.length_append, List.length_cons, List.length_nil] at *; omega) | (unfold maxLen at *; omega)))))
                                        all_goals (first | (refine E.AW.nil [13] rfl ?_) | (refine E.AW.nil [14] rfl ?_) | (refine E.AW.nil [15] rfl ?_) | (refine E.AW.nil [16] rfl ?_) | (refine E.AW.nil [17] rfl ?_) | (refine E.AW.nil [18] rfl ?_) | (refine E.AW.nil [19] rfl ?_) | (refine E.AW.nil [12] rfl ?_) | (refine E.AW.nil [11] rfl ?_))
                                        all_goals (refine E.AW.first 8 rfl (by kernel_rfl) (by kernel_rfl) (by kernel_rfl) rfl rfl rfl (E.PV.nilCheck rfl rfl) ?_)
                                        all_goals (refine E.AW.first 9 rfl (by kernel_rfl) (by kernel_rfl) (by kernel_rfl) rfl rfl rfl (E.PV.fieldAddr fa93_2 rfl rfl) ?_)
                                        all_goals (refine E.AW.one 10 (by kernel_rfl) rfl ?_)
                                        all_goals (refine E.OW.store (i := 4) in90.size rfl rfl rfl rfl rfl rfl rfl rfl rfl ?_)
                                        all_goals (first | (refine E.AW.nil [13] rfl ?_) | (refine E.AW.nil [14] rfl ?_) | (refine E.AW.nil [15] rfl ?_) | (refine E.AW.nil [16] rfl ?_) | (refine E.AW.nil [17] rfl ?_) | (refine E.AW.nil [18] rfl ?_) | (refine E.AW.nil [19] rfl ?_) | (refine E.AW.nil [12] rfl ?_) | (refine E.AW.nil [11] rfl ?_))
                                        all_goals (refine E.AW.conv (E.cv_snocN 1 rfl rfl) ?_)
                                        all_goals (refine E.AW.conv (E.cv_rows_snocN 3 4 rfl rfl rfl) ?_)
                                        all_goals (refine E.AW.done (by kernel_rfl) ?_)
                                    case' gb10 =>
                                        all_goals (refine E.OW.buildSlice (Et := 89) (sz := 1) (ps := [(0, .tmp 191)]) rfl rfl rfl rfl rfl (by simp) (by unfold maxLen; omega) (fun w => bsl90_1_0 _ _ _ w) (fun A44 => ?_))
                                        all_goals (first | (refine E.AW.nil [13] rfl ?_) | (refine E.AW.nil [14] rfl ?_) | (refine E.AW.nil [15] rfl ?_) | (refine E.AW.nil [16] rfl ?_) | (refine E.AW.nil [17] rfl ?_) | (refine E.AW.nil [18] rfl ?_) | (refine E.AW.nil [19] rfl ?_) | (refine E.AW.nil [12] rfl ?_) | (refine E.AW.nil [11] rfl ?_))
                                        all_goals (refine E.AW.one 4 (by kernel_rfl) rfl ?_)
                                        all_goals (refine E.OW.pure rfl rfl rfl (E.PV.load (i := 3) na90 rfl rfl rfl rfl) ?_)
                                        all_goals (first | (refine E.AW.nil [13] rfl ?_) | (refine E.AW.nil [14] rfl ?_) | (refine E.AW.nil [15] rfl ?_) | (refine E.AW.nil [16] rfl ?_) | (refine E.AW.nil [17] rfl ?_) | (refine E.AW.nil [18] rfl ?_) | (refine E.AW.nil [19] rfl ?_) | (refine E.AW.nil [12] rfl ?_) | (refine E.AW.nil [11] rfl ?_))
                                        all_goals (refine E.AW.one 7 (by kernel_rfl) rfl ?_)
                                        all_goals (refine E.OW.append (i := 4) Try.underlying90 in89 rfl rfl (by decide) rfl rfl rfl rfl rfl rfl rfl (E.rdr (i := 0) rfl) ?_ ?_ ?_ ?_ (fun A45 c45 => ?_); (focus ((first | rfl | (simp; done) | omega))); (focus ((first | exact E.ints_one | exact E.u8s_one | (simp [Value.oneCell']; done)))); (focus ((unfold maxLen; omega))); (focus ((first | omega | (simp only [List.length_append, List.length_cons, List.length_nil] at *; omega) | (unfold maxLen at *; omega)))))
                                        all_goals (first | (refine E.AW.nil [13] rfl ?_) | (refine E.AW.nil [14] rfl ?_) | (refine E.AW.nil [15] rfl ?_) | (refine E.AW.nil [16] rfl ?_) | (refine E.AW.nil [17] rfl ?_) | (refine E.AW.nil [18] rfl ?_) | (refine E.AW.nil [19] rfl ?_) | (refine E.AW.nil [12] rfl ?_) | (refine E.AW.nil [11] rfl ?_))
                                        all_goals (refine E.AW.first 8 rfl (by kernel_rfl) (by kernel_rfl) (by kernel_rfl) rfl rfl rfl (E.PV.nilCheck rfl rfl) ?_)
                                        all_goals (refine E.AW.first 9 rfl (by kernel_rfl) (by kernel_rfl) (by kernel_rfl) rfl rfl rfl (E.PV.fieldAddr fa93_2 rfl rfl) ?_)
                                        all_goals (refine E.AW.one 10 (by kernel_rfl) rfl ?_)
                                        all_goals (refine E.OW.store (i := 4) in90.size rfl rfl rfl rfl rfl rfl rfl rfl rfl ?_)
                                        all_goals (first | (refine E.AW.nil [13] rfl ?_) | (refine E.AW.nil [14] rfl ?_) | (refine E.AW.nil [15] rfl ?_) | (refine E.AW.nil [16] rfl ?_) | (refine E.AW.nil [17] rfl ?_) | (refine E.AW.nil [18] rfl ?_) | (refine E.AW.nil [19] rfl ?_) | (refine E.AW.nil [12] rfl ?_) | (refine E.AW.nil [11] rfl ?_))
                                        all_goals (refine E.AW.conv (E.cv_snocN 1 rfl rfl) ?_)
                                        all_goals (refine E.AW.conv (E.cv_rows_snocN 3 4 rfl rfl rfl) ?_)
                                        all_goals (refine E.AW.done (by kernel_rfl) ?_))
                                  all_goals (
                                    skip
                                    refine E.then_nf ?_
                                    refine ⟨[], [4, 2, 1, 0, 1, 1, 1, 1, 1, 1, 1, 1, 1, 1, 1], [_, _, _, _], by repeat (first | exact E.cov_nil | refine ⟨rfl, ?_⟩), rfl, _, _, rfl, rfl, trivial⟩)
                                · rintro _ _ ⟨Aa2, ca2, rfl, rfl, hI⟩
                                  refine E.CW.drawx mixed [12] rfl ?_
                                  all_goals (refine E.AW.first 0 rfl (by kernel_rfl) (by kernel_rfl) (by kernel_rfl) rfl rfl rfl (E.PV.load (i := 0) na87 rfl rfl rfl rfl) ?_)
                                  all_goals (refine E.AW.first 1 rfl (by kernel_rfl) (by kernel_rfl) (by kernel_rfl) rfl rfl rfl (E.PV.load (i := 0) na87 rfl rfl rfl rfl) ?_)
                                  all_goals (refine E.AW.first 2 rfl (by kernel_rfl) (by kernel_rfl) (by kernel_rfl) rfl rfl rfl (E.PV.nilCheck rfl rfl) ?_)
                                  all_goals (refine E.AW.first 3 rfl (by kernel_rfl) (by kernel_rfl) (by kernel_rfl) rfl rfl rfl (E.PV.fieldAddr fa93_3 rfl rfl) ?_)
                                  all_goals (refine E.AW.first 5 rfl (by kernel_rfl) (by kernel_rfl) (by kernel_rfl) rfl rfl rfl (E.PV.move rfl rfl) ?_)
                                  all_goals (
                                    refine E.AW.two 4 6 (by kernel_rfl) rfl rfl ?ga11 ?gb11
                                    case' ga11 =>
                                        all_goals (refine E.OW.pure rfl rfl rfl (E.PV.load (i := 1) na91 rfl rfl rfl rfl) ?_)
                                        all_goals (first | (refine E.AW.nil [12] rfl ?_) | (refine E.AW.nil [13] rfl ?_) | (refine E.AW.nil [14] rfl ?_) | (refine E.AW.nil [15] rfl ?_) | (refine E.AW.nil [16] rfl ?_) | (refine E.AW.nil [17] rfl ?_) | (refine E.AW.nil [18] rfl ?_) | (refine E.AW.nil [11] rfl ?_) | (refine E.AW.nil [10] rfl ?_))
                                        all_goals (refine E.AW.one 6 (by kernel_rfl) rfl ?_)
                                        all_goals (refine E.OW.buildSlice (Et := 31) (sz := 1) (ps := [(0, .tmp 201)]) rfl rfl rfl rfl rfl (by simp) (by unfold maxLen; omega) (fun w => bsl91_1_0 _ _ _ w) (fun A46 => ?_))
                                        all_goals (first | (refine E.AW.nil [12] rfl ?_) | (refine E.AW.nil [13] rfl ?_) | (refine E.AW.nil [14] rfl ?_) | (refine E.AW.nil [15] rfl ?_) | (refine E.AW.nil [16] rfl ?_) | (refine E.AW.nil [17] rfl ?_) | (refine E.AW.nil [18] rfl ?_) | (refine E.AW.nil [11] rfl ?_) | (refine E.AW.nil [10] rfl ?_))
                                        all_goals (refine E.AW.one 7 (by kernel_rfl) rfl ?_)
                                        all_goals (refine E.OW.append (i := 5) Try.underlying91 in31 rfl rfl (by decide) rfl rfl rfl rfl rfl rfl rfl (E.rdr (i := 0) rfl) ?_ ?_ ?_ ?_ (fun A47 c47 => ?_); (focus ((first | rfl | (simp; done) | omega))); (focus ((first | exact E.ints_one | exact E.u8s_one | (simp [Value.oneCell']; done)))); (focus ((unfold maxLen; omega))); (focus ((first | omega | (simp only [List.length_append, List.length_cons, List.length_nil] at *; omega) | (unfold maxLen at *; omega)))))
                                        all_goals (first | (refine E.AW.nil [12] rfl ?_) | (refine E.AW.nil [13] rfl ?_) | (refine E.AW.nil [14] rfl ?_) | (refine E.AW.nil [15] rfl ?_) | (refine E.AW.nil [16] rfl ?_) | (refine E.AW.nil [17] rfl ?_) | (refine E.AW.nil [18] rfl ?_) | (refine E.AW.nil [11] rfl ?_) | (refine E.AW.nil [10] rfl ?_))
                                        all_goals (refine E.AW.first 8 rfl (by kernel_rfl) (by kernel_rfl) (by kernel_rfl) rfl rfl rfl (E.PV.nilCheck rfl rfl) ?_)
                                        all_goals (refine E.AW.first 9 rfl (by kernel_rfl) (by kernel_rfl) (by kernel_rfl) rfl rfl rfl (E.PV.fieldAddr fa93_3 rfl rfl) ?_)
                                        all_goals (refine E.AW.one 10 (by kernel_rfl) rfl ?_)
                                        all_goals (refine E.OW.store (i := 3) in91.size rfl rfl rfl rfl rfl rfl rfl rfl rfl ?_)
                                        all_goals (first | (refine E.AW.nil [12] rfl ?_) | (refine E.AW.nil [13] rfl ?_) | (refine E.AW.nil [14] rfl ?_) | (refine E.AW.nil [15] rfl ?_) | (refine E.AW.nil [16] rfl ?_) | (refine E.AW.nil [17] rfl ?_) | (refine E.AW.nil [18] rfl ?_) | (refine E.AW.nil [11] rfl ?_) | (refine E.AW.nil [10] rfl ?_))
                                        all_goals (refine E.AW.conv (E.cv_snocN 1 rfl rfl) ?_)
                                        all_goals (refine E.AW.conv (E.cv_rows_snocN 3 5 rfl rfl rfl) ?_)
                                        all_goals (refine E.AW.done (by kernel_rfl) ?_)
                                    case' gb11 =>
                                        all_goals (refine E.OW.buildSlice (Et := 31) (sz := 1) (ps := [(0, .tmp 201)]) rfl rfl rfl rfl rfl (by simp) (by unfold maxLen; omega) (fun w => bsl91_1_0 _ _ _ w) (fun A48 => ?_))
                                        all_goals (first | (refine E.AW.nil [12] rfl ?_) | (refine E.AW.nil [13] rfl ?_) | (refine E.AW.nil [14] rfl ?_) | (refine E.AW.nil [15] rfl ?_) | (refine E.AW.nil [16] rfl ?_) | (refine E.AW.nil [17] rfl ?_) | (refine E.AW.nil [18] rfl ?_) | (refine E.AW.nil [11] rfl ?_) | (refine E.AW.nil [10] rfl ?_))
                                        all_goals (refine E.AW.one 4 (by kernel_rfl) rfl ?_)
                                        all_goals (refine E.OW.pure rfl rfl rfl (E.PV.load (i := 2) na91 rfl rfl rfl rfl) ?_)
                                        all_goals (first | (refine E.AW.nil [12] rfl ?_) | (refine E.AW.nil [13] rfl ?_) | (refine E.AW.nil [14] rfl ?_) | (refine E.AW.nil [15] rfl ?_) | (refine E.AW.nil [16] rfl ?_) | (refine E.AW.nil [17] rfl ?_) | (refine E.AW.nil [18] rfl ?_) | (refine E.AW.nil [11] rfl ?_) | (refine E.AW.nil [10] rfl ?_))
                                        all_goals (refine E.AW.one 7 (by kernel_rfl) rfl ?_)
                                        all_goals (refine E.OW.append (i := 5) Try.underlying91 in31 rfl rfl (by decide) rfl rfl rfl rfl rfl rfl rfl (E.rdr (i := 0) rfl) ?_ ?_ ?_ ?_ (fun A49 c49 => ?_); (focus ((first | rfl | (simp; done) | omega))); (focus ((first | exact E.ints_one | exact E.u8s_one | (simp [Value.oneCell']; done)))); (focus ((unfold maxLen; omega))); (focus ((first | omega | (simp only [List.length_append, List.length_cons, List.length_nil] at *; omega) | (unfold maxLen at *; omega)))))
                                        all_goals (first | (refine E.AW.nil [12] rfl ?_) | (refine E.AW.nil [13] rfl ?_) | (refine E.AW.nil [14] rfl ?_) | (refine E.AW.nil [15] rfl ?_) | (refine E.AW.nil [16] rfl ?_) | (refine E.AW.nil [17] rfl ?_) | (refine E.AW.nil [18] rfl ?_) | (refine E.AW.nil [11] rfl ?_) | (refine E.AW.nil [10] rfl ?_))
                                        all_goals (refine E.AW.first 8 rfl (by kernel_rfl) (by kernel_rfl) (by kernel_rfl) rfl rfl rfl (E.PV.nilCheck rfl rfl) ?_)
                                        all_goals (refine E.AW.first 9 rfl (by kernel_rfl) (by kernel_rfl) (by kernel_rfl) rfl rfl rfl (E.PV.fieldAddr fa93_3 rfl rfl) ?_)
                                        all_goals (refine E.AW.one 10 (by kernel_rfl) rfl ?_)
                                        all_goals (refine E.OW.store (i := 3) in91.size rfl rfl rfl rfl rfl rfl rfl rfl rfl ?_)
                                        all_goals (first | (refine E.AW.nil [12] rfl ?_) | (refine E.AW.nil [13] rfl ?_) | (refine E.AW.nil [14] rfl ?_) | (refine E.AW.nil [15] rfl ?_) | (refine E.AW.nil [16] rfl ?_) | (refine E.AW.nil [17] rfl ?_) | (refine E.AW.nil [18] rfl ?_) | (refine E.AW.nil [11] rfl ?_) | (refine E.AW.nil [10] rfl ?_))
                                        all_goals (refine E.AW.conv (E.cv_snocN 1 rfl rfl) ?_)
                                        all_goals (refine E.AW.conv (E.cv_rows_snocN 3 5 rfl rfl rfl) ?_)
                                        all_goals (refine E.AW.done (by kernel_rfl) ?_))
                                  all_goals (
                                    skip
                                    refine E.blk_n ?_
                                    refine E.then_n ?_
                                    refine E.CW.region ?_
                                    refine E.OW.pure rfl rfl rfl (E.PV.add_i64 rfl rfl rfl ?_) ?_; (focus (omega))
                                    refine E.OW.pure rfl rfl rfl (E.PV.move rfl rfl) ?_
                                    refine E.OW.nil ?_
                                    refine E.then_nf ?_
                                    refine ⟨_, [(136, _)], [2, 3, 3, 1, 0, 1, 1, 1, 1, 1, 1, 1, 1, 1], [_, _, _, _, _], ?_, by repeat (first | exact E.cov_nil | refine ⟨rfl, ?_⟩), rfl, k + 1, _, _, _, _, _, _, _, _, rfl, rfl, rfl, by omega⟩
                                    omega)))
                    · simp only [E.b0, E.b1, E.b2, E.b3, E.b4, E.b5, E.b6, E.b7, E.b8, E.b9, E.b10, E.b11, E.b12, E.b13, E.b14, E.b15, E.b16, E.b17, E.b18, E.b19, E.b20, reduceCtorEq] at hc
                      all_goals (
                        refine E.CW.exit ?_
                        refine E.then_x ?_
                        refine E.then_x ?_
                        refine E.blk_eq ?_
                        refine E.then_n ?_
                        refine E.CW.seq ?_
                        obtain rfl : k = g.s.length := by omega
                        refine E.CW.conv (E.cv_gather [0, 8, 0, 0, 0, 2, 1, 0, 0, 0, 0, 0, 0, 0] 7 rfl rfl) ?_
                        refine E.CW.conv (E.cv_chunk 0 (E.HP.pl0 ⟨PB, (Rt.G g.q t a b), (some ⟨QC, 0, .none⟩), g.l.length, Aa, ca, Xa, ua, Ad, cd, Xd, ud, (some ⟨QN, 0, .none⟩), g.l.length, Xn, un⟩) rfl rfl) ?_
                        refine E.CW.conv (E.cv_chunk 1 (E.HP.dist ⟨PB, (Rt.G g.q t a b), (some ⟨QC, 0, .none⟩), g.l.length, Aa, ca, Xa, ua, Ad, cd, Xd, ud, (some ⟨QN, 0, .none⟩), g.l.length, Xn, un⟩ fun _ _ => -1) rfl rfl) ?_
                        refine E.CW.region ?_
                        refine E.OW.pure rfl rfl rfl (E.PV.load (i := 5) na87 rfl rfl rfl rfl) ?_
                        refine E.OW.pure rfl rfl rfl (E.PV.fieldAddr fa30_1 rfl rfl) ?_
                        refine E.OW.pure rfl rfl rfl (E.PV.load (i := 6) na3 rfl rfl rfl rfl) ?_
                        refine E.OW.put 209 (.int .i64 ((b.toNat : Nat) : Int)) rfl (congrArg (Value.int .i64) (Int.toNat_of_nonneg hrb.1).symm) ?_
                        refine E.OW.callM nm103 rfl rfl rfl rfl rfl rfl _ 0 rfl (fun w S hw hs hb hc => fill_ok ⟨PB, (Rt.G g.q t a b), (some ⟨QC, 0, .none⟩), g.l.length, Aa, ca, Xa, ua, Ad, cd, Xd, ud, (some ⟨QN, 0, .none⟩), g.l.length, Xn, un⟩ S w hs (fun k hk => (hb k hk).1) (E.rd0_in hc (i := 0) rfl) (Rt.G_ok hL) hn64 hs16.2 (Rt.G_near _ _ _ _)) ?_; rintro _ _ ⟨DF, rfl, hDF⟩
                        refine E.OW.cvt (E.cv_gather [1, 0, 0, 0, 0, 0, 0, 0] 2 rfl rfl) ?_
                        refine E.OW.cvt (E.cv_chunk 0 (E.HP.plan ⟨PB, (Rt.G g.q t a b), (some ⟨QC, 0, .none⟩), g.l.length, Aa, ca, Xa, ua, Ad, cd, Xd, ud, (some ⟨QN, 0, .none⟩), g.l.length, Xn, un⟩ DF) rfl rfl) ?_
                        refine E.OW.nil ?_
                        refine E.then_n ?_
                        refine E.CW.seq ?_
                        refine E.CW.region ?_
                        refine E.OW.pure rfl rfl rfl (E.PV.load (i := 4) na87 rfl rfl rfl rfl) ?_
                        refine E.OW.pure rfl rfl rfl (E.PV.assign rfl rfl) ?_
                        refine E.OW.nil ?_
                        refine E.then_n ?_
                        refine E.CW.ret ?_
                        refine E.KRM.one [3, 0] rfl Try.results59 rfl rfl ?_
                        exact ⟨_, _, rfl, rfl, rfl, hDF⟩)))
end Go.Proofs.Ytflkbabhbnmajaa

/- Arrivals, routes, reached places, plainly: no program in sight. -/
set_option linter.unusedSimpArgs false
set_option linter.unusedVariables false
namespace Go.Proofs.Ytflkbabhbnmajaa
namespace Bf
/-- the search ends. -/
theorem Part.run {x : G} (ok : x.ok) {q0 : List (Nat × Nat)} {h : Nat} : ∀ (m : Nat) {D : DD} {q : List (Nat × Nat)} {j : Nat}, Part x D q h j → at_ q h = at_ q0 h → (x.nr (at_ q0 h).1).length ≤ j + m → ∃ D' q', Base x D' q' (h + 1) ∧ (∀ k, k < x.K → D' k x.goal = 0) ∧ h < q'.length := by
  intro m
  induction m with
  | zero => intro D q j a e hl; exact ⟨D, q, a.done (by rw [e]; omega), a.g, a.hl⟩
  | succ m ih =>
    intro D q j a e hl
    rcases Nat.lt_or_ge j (x.nr (at_ q0 h).1).length with hj | hj
    · cases hc : x.cell ((x.nr (at_ q h).1).getD j 0) with
      | true => exact ih (a.see ok (by rw [e]; exact hj) hc) ((seeQ_at a.hl).trans e) (by omega)
      | false => exact ih (a.skip hc) e (by omega)
    · exact ⟨D, q, a.done (by rw [e]; omega), a.g, a.hl⟩
theorem run_from {x : G} (ok : x.ok) : ∀ (m : Nat) {D : DD} {q : List (Nat × Nat)} {h : Nat}, Base x D q h → (∀ k, k < x.K → D k x.goal = 0) → h ≤ q.length → x.n * x.K ≤ h + m → ∃ D q, Base x D q q.length ∧ ∀ k, k < x.K → D k x.goal = 0 := by
  intro m
  induction m with
  | zero =>
    intro D q h b g hq hm
    have := len_le b
    have : h = q.length := by omega
    subst this
    exact ⟨D, q, b, g⟩
  | succ m ih =>
    intro D q h b g hq hm
    rcases Nat.lt_or_ge h q.length with hh | hh
    · obtain ⟨D', q', b', g', hl⟩ := Part.run ok (q0 := q) (x.nr (at_ q h).1).length (b.part hh g) rfl (by omega)
      exact ih b' g' hl (by omega)
    · have : h = q.length := by omega
      subst this
      exact ⟨D, q, b, g⟩
theorem Start.run {x : G} (ok : x.ok) : ∀ j, j ≤ x.K → ∃ D q, Start x D q j := by
  intro j
  induction j with
  | zero => intro _; exact ⟨_, _, Start.zero x (D := fun _ _ => -1) fun _ _ => rfl⟩
  | succ j ih => intro hj; obtain ⟨D, q, h⟩ := ih (by omega); exact ⟨_, _, h.see ok (by omega)⟩
theorem run {x : G} (ok : x.ok) : ∃ D q, Base x D q q.length ∧ ∀ k, k < x.K → D k x.goal = 0 := by
  obtain ⟨D, q, h⟩ := Start.run ok x.K (Nat.le_refl _)
  exact run_from ok (x.n * x.K) h.b (fun k hk => h.g k hk) (Nat.zero_le _) (by omega)
/-- the length of a shortest walk, or -1. -/
noncomputable def arr (x : G) (k p : Nat) : Int := open Classical in if h : ∃ v, Ar x k p v then Classical.choose h else -1
theorem arr_of {x : G} {k p : Nat} {v : Int} (h : Ar x k p v) : arr x k p = v := by
  have he : ∃ v, Ar x k p v := ⟨v, h⟩
  unfold arr
  rw [dif_pos he]
  exact (Classical.choose_spec he).uniq h
theorem arr_ar {x : G} (ok : x.ok) {k p : Nat} (hk : k < x.K) (hp : p < x.n) (hc : x.cell p = true) : Ar x k p (arr x k p) := by
  obtain ⟨D, q, b, g⟩ := run ok
  have := b.ar ok g hk hp hc
  rw [arr_of this]; exact this
/-- where a walk of m steps from a can be. -/
def R (x : G) (k0 a : Nat) : Nat → Nat → Bool
  | 0, q => decide (q = a)
  | m + 1, q => ((List.range x.n).any fun p => R x k0 a m p && decide (q ∈ x.nr p)) && x.al ((k0 + m + 1) % x.K) q
/-- the next place of a route: from the state of the next tick. -/
noncomputable def nx (x : G) (k p : Nat) (n : Int) : Nat := ((x.nr p).find? fun q => x.al k q && decide (arr x k q = n - 1)).getD p
theorem nx_at {x : G} {k p j : Nat} {n : Int} (hj : j < (x.nr p).length) (h1 : ∀ i, i < j → (x.al k ((x.nr p).getD i 0) && decide (arr x k ((x.nr p).getD i 0) = n - 1)) = false) (h2 : (x.al k ((x.nr p).getD j 0) && decide (arr x k ((x.nr p).getD j 0) = n - 1)) = true) :
    nx x k p n = (x.nr p).getD j 0 := by
  unfold nx
  have : (x.nr p).find? (fun q => x.al k q && decide (arr x k q = n - 1)) = some ((x.nr p).getD j 0) := by
    rw [List.find?_eq_some_iff_getElem]
    refine ⟨h2, j, hj, by simp [List.getD, hj], fun i hi => ?_⟩
    have := h1 i hi
    rw [List.getD_eq_getElem?_getD, List.getElem?_eq_getElem (by omega), Option.getD_some] at this
    rw [this]; rfl
  rw [this]; rfl
theorem nx_none {x : G} {k p : Nat} {n : Int} (h1 : ∀ i, i < (x.nr p).length → (x.al k ((x.nr p).getD i 0) && decide (arr x k ((x.nr p).getD i 0) = n - 1)) = false) : nx x k p n = p := by
  unfold nx
  have : (x.nr p).find? (fun q => x.al k q && decide (arr x k q = n - 1)) = none := by
    rw [List.find?_eq_none]
    intro q hq
    obtain ⟨i, hi, rfl⟩ := List.getElem_of_mem hq
    have := h1 i hi
    rw [List.getD_eq_getElem?_getD, List.getElem?_eq_getElem hi, Option.getD_some] at this
    rw [this]; decide
  rw [this]; rfl
/-- a route: m places behind p, from the phase k on. -/
noncomputable def rt (x : G) : Nat → Nat → Nat → List Nat
  | 0, _, p => [p]
  | m + 1, k, p => p :: rt x m ((k + 1) % x.K) (nx x ((k + 1) % x.K) p ((m : Int) + 1))
theorem rt_len (x : G) : ∀ m k p, (rt x m k p).length = m + 1 := by
  intro m
  induction m with
  | zero => intro k p; rfl
  | succ m ih => intro k p; simp only [rt, List.length_cons, ih]
theorem rt_head (x : G) : ∀ m k p, ∃ r, rt x m k p = p :: r := by
  intro m k p
  cases m with
  | zero => exact ⟨[], rfl⟩
  | succ m => exact ⟨_, rfl⟩
/-- the next place of a place with the arrival m + 1 is a neighbour with the arrival m. -/
theorem nx_ok {x : G} (ok : x.ok) {k p m : Nat} (hk : k < x.K) (hp : p < x.n) (hc : x.cell p = true) (h : arr x k p = (m : Int) + 1) :
    nx x ((k + 1) % x.K) p ((m : Int) + 1) ∈ x.nr p ∧ x.al ((k + 1) % x.K) (nx x ((k + 1) % x.K) p ((m : Int) + 1)) = true ∧ arr x ((k + 1) % x.K) (nx x ((k + 1) % x.K) p ((m : Int) + 1)) = m := by
  have ha := arr_ar ok hk hp hc
  rw [h] at ha
  rcases ha with ⟨h1, _⟩ | ⟨_, _, hw, hmin⟩
  · omega
  · rw [show ((m : Int) + 1).toNat = m + 1 by omega] at hw
    obtain ⟨q, h1, h2, h3⟩ := hw
    have hk1 : (k + 1) % x.K < x.K := Nat.mod_lt _ ok.K0
    have hq := ok.nrlt p q hp h1
    have hq2 : arr x ((k + 1) % x.K) q = m := by
      rcases arr_ar ok hk1 hq (ok.alc _ _ h2) with ⟨_, g2⟩ | ⟨g1, _, g2, g3⟩
      · exact absurd h3 (g2 m)
      · have h4 := g3 m h3
        have h5 := hmin ((arr x ((k + 1) % x.K) q).toNat + 1) ⟨q, h1, h2, g2⟩
        omega
    unfold nx
    cases hf : (x.nr p).find? (fun q => x.al ((k + 1) % x.K) q && decide (arr x ((k + 1) % x.K) q = (m : Int) + 1 - 1)) with
    | none =>
      have := List.find?_eq_none.1 hf q h1
      simp only [h2, Bool.true_and, decide_eq_true_eq] at this
      omega
    | some r =>
      have h4 := List.find?_some hf
      have h5 := List.mem_of_find?_eq_some hf
      simp only [Bool.and_eq_true, decide_eq_true_eq] at h4
      exact ⟨h5, h4.1, by have := h4.2; simp only [Option.getD_some]; omega⟩
end Bf
namespace Rt
open Cf
/-- the places that f tells, in increasing order. -/
def pls (n : Nat) (f : Nat → Bool) : List Int := ((List.range n).filter f).map fun (p : Nat) => (p : Int)
def ph (g : C) (tick : Int) : Nat := (tick % (g.s.length : Int)).toNat
theorem ph_lt {g : C} (h : check g = 0) (tick : Int) : ph g tick < g.s.length := by
  have := per_of h
  have h1 := Int.emod_nonneg tick (show (g.s.length : Int) ≠ 0 by omega)
  have h2 := Int.emod_lt_of_pos tick (show (0 : Int) < g.s.length by omega)
  unfold ph; omega
theorem ph_int {g : C} (h : check g = 0) (tick : Int) : tick % (g.s.length : Int) = ((ph g tick : Nat) : Int) := by
  have := per_of h
  have h1 := Int.emod_nonneg tick (show (g.s.length : Int) ≠ 0 by omega)
  unfold ph; omega
theorem ph_add {g : C} (h : check g = 0) {tick : Int} (m : Nat) : ph g (tick + (m : Int)) = (ph g tick + m) % g.s.length := by
  have h1 := ph_int h (tick + (m : Int))
  have h2 := ph_int h tick
  have h3 : (((ph g tick + m) % g.s.length : Nat) : Int) = tick % (g.s.length : Int) + (m : Int) - ((tick % (g.s.length : Int) + (m : Int)) / (g.s.length : Int)) * (g.s.length : Int) := by
    rw [h2, Int.natCast_emod, Int.natCast_add, Int.emod_def]
    rw [Int.mul_comm]
  have h4 : (tick + (m : Int)) % (g.s.length : Int) = (tick % (g.s.length : Int) + (m : Int)) % (g.s.length : Int) := by rw [Int.emod_add_emod]
  rw [h4, Int.emod_def, Int.mul_comm] at h1
  omega
def cellsR (g : C) (t a b : Int) : List Int × Int := if legE g t a b 0 = 0 then (pls g.l.length (G g t a b).cell, 0) else ([], legE g t a b 0)
def freeR (g : C) (t a b p tick : Int) : Bool × Int :=
  if legE g t a b tick = 0 then (if 0 ≤ p ∧ p < (g.l.length : Int) then ((G g t a b).al (ph g tick) p.toNat, 0) else (false, 2)) else (false, legE g t a b tick)
def reachR (g : C) (t a b tick n : Int) : List Int × Int :=
  if legE g t a b tick = 0 then (if 0 ≤ n ∧ n ≤ 1024 then (pls g.l.length (Bf.R (G g t a b) (ph g tick) a.toNat n.toNat), 0) else ([], 2)) else ([], legE g t a b tick)
noncomputable def arrv (g : C) (t a b tick : Int) : Int := Bf.arr (G g t a b) (ph g tick) a.toNat
noncomputable def arrivalR (g : C) (t a b tick : Int) : Int × Int :=
  if legE g t a b tick = 0 then (if arrv g t a b tick < 0 then (0, 130) else (arrv g t a b tick, 0)) else (0, legE g t a b tick)
noncomputable def rts (g : C) (t a b tick : Int) : List Int := (Bf.rt (G g t a b) (arrv g t a b tick).toNat (ph g tick) a.toNat).map fun (p : Nat) => (p : Int)
noncomputable def routeR (g : C) (t a b tick : Int) : List Int × Int :=
  if legE g t a b tick = 0 then (if arrv g t a b tick < 0 then ([], 130) else (rts g t a b tick, 0)) else ([], legE g t a b tick)
noncomputable def nextR (g : C) (t a b tick : Int) : Int × Int :=
  if (routeR g t a b tick).2 = 0 then (if (routeR g t a b tick).1.length < 2 then (0, 6) else ((routeR g t a b tick).1.getD 1 0, 0)) else (0, (routeR g t a b tick).2)
noncomputable def tableR (g : C) (t a b : Int) : List Int × Int := if legE g t a b 0 = 0 then ((List.range g.s.length).map fun k => Bf.arr (G g t a b) k a.toNat, 0) else ([], legE g t a b 0)
/-- a list is a walk on a leg: its steps. -/
def stepsOk (x : Bf.G) (k0 : Nat) (l : List Int) (m : Nat) : Prop := ∀ i, i < m → 0 ≤ l.getD (i + 1) 0 ∧ (l.getD (i + 1) 0).toNat ∈ x.nr (l.getD i 0).toNat ∧ x.al ((k0 + i + 1) % x.K) (l.getD (i + 1) 0).toNat = true
def isWalk (g : C) (t a b tick : Int) (l : List Int) : Prop := l.length ≠ 0 ∧ l.getD 0 0 = a ∧ l.getD (l.length - 1) 0 = b ∧ stepsOk (G g t a b) (ph g tick) l (l.length - 1)
noncomputable def walkR (g : C) (t a b tick : Int) (l : List Int) : Bool × Int := open Classical in
  if legE g t a b tick = 0 then (if l.length ≤ 1025 then (decide (isWalk g t a b tick l), 0) else (false, 4)) else (false, legE g t a b tick)
def prs (u v : List Int) : List (Int × Int) := u.flatMap fun p => v.map fun q => (p, q)
def legs (m : T) : List (Int × Int) := prs m.h m.p ++ prs m.p m.d ++ prs m.d m.h
def legsR (g : C) (t : Int) : List (Int × Int) × Int := if asked g t 0 = 0 then (legs (team g t), 0) else ([], asked g t 0)
end Rt
end Go.Proofs.Ytflkbabhbnmajaa

/- Laws for the walks over a plan. -/
set_option linter.unusedSimpArgs false
set_option linter.unusedVariables false
namespace Go.Proofs.Ytflkbabhbnmajaa
namespace Rt
open Cf
def phk (K : Nat) (tick : Int) : Nat := (tick % (K : Int)).toNat
theorem phk_lt {K : Nat} (h : 1 ≤ K) (tick : Int) : phk K tick < K := by
  have h1 := Int.emod_nonneg tick (show (K : Int) ≠ 0 by omega)
  have h2 := Int.emod_lt_of_pos tick (show (0 : Int) < K by omega)
  unfold phk; omega
theorem phk_int {K : Nat} (h : 1 ≤ K) (tick : Int) : tick % (K : Int) = ((phk K tick : Nat) : Int) := by
  have h1 := Int.emod_nonneg tick (show (K : Int) ≠ 0 by omega)
  unfold phk; omega
theorem rng_all {p : Nat → Bool} {k : Nat} (h : ∀ j, j < k → p j = false) (e : p k = false) : ∀ j, j < k + 1 → p j = false := fun j hj => by
  rcases Nat.lt_succ_iff_lt_or_eq.1 hj with h' | rfl
  · exact h j h'
  · exact e
theorem cell_from {g : C} {t a b : Int} (h : Leg g t a b) : (G g t a b).cell a.toNat = true := by
  show has g t a b ((a.toNat : Nat) : Int) = true
  rw [Int.toNat_of_nonneg h.ra.1]
  unfold has
  rw [decide_eq_true (rfl : a = a)]
  simp
theorem plan_all {x : Bf.G} {D : Bf.DD} (h : ∀ k p, k < x.K → p < x.n → x.cell p = true → Bf.Ar x k p (D k p)) : ∀ k p, k < x.K → p < x.n → x.cell p = true → D k p = Bf.arr x k p := fun k p h1 h2 h3 => (Bf.arr_of (h k p h1 h2 h3)).symm
theorem plan_at {g : C} {t a b : Int} (hL : Leg g t a b) {x : Bf.G} (hx : x = G g t a b) {D : Bf.DD} (h : ∀ k p, k < x.K → p < x.n → x.cell p = true → Bf.Ar x k p (D k p)) {k : Nat} (hk : k < x.K) : D k a.toNat = Bf.arr (G g t a b) k a.toNat := by
  subst hx
  exact plan_all h k a.toNat hk (by have := hL.ra; show a.toNat < g.l.length; omega) (cell_from hL)
theorem plan_arr {g : C} {t a b : Int} (hL : Leg g t a b) {x : Bf.G} (hx : x = G g t a b) {D : Bf.DD} (h : ∀ k p, k < x.K → p < x.n → x.cell p = true → Bf.Ar x k p (D k p)) {tick : Int} : D (phk x.K tick) a.toNat = arrv g t a b tick := by
  subst hx
  exact plan_at hL rfl h (phk_lt (per_of hL.c).1 tick)
def tbl (D : Bf.DD) (p k : Nat) : List Int := (List.range k).map fun i => D i p
theorem tbl_succ (D : Bf.DD) (p k : Nat) : tbl D p (k + 1) = tbl D p k ++ [D k p] := by unfold tbl; rw [List.range_succ, List.map_append]; rfl
theorem tbl_len (D : Bf.DD) (p k : Nat) : (tbl D p k).length = k := by simp [tbl]
theorem tbl_all {D D' : Bf.DD} {p k : Nat} (h : ∀ i, i < k → D i p = D' i p) : tbl D p k = tbl D' p k := by
  unfold tbl; apply List.map_congr_left; intro i hi; exact h i (List.mem_range.1 hi)
theorem arv_of {g : C} {t a b tick : Int} (h : legE g t a b tick = 0) : arrivalR g t a b tick = if arrv g t a b tick < 0 then (0, 130) else (arrv g t a b tick, 0) := if_pos h
theorem arv_err {g : C} {t a b tick : Int} (h : ¬ legE g t a b tick = 0) : arrivalR g t a b tick = (0, legE g t a b tick) := if_neg h
theorem phk_succ {K : Nat} (h : 1 ≤ K) (tick : Int) : phk K (tick + 1) = (phk K tick + 1) % K := by
  have h1 := phk_int h (tick + 1)
  have h2 := phk_int h tick
  have h3 : (tick + 1) % (K : Int) = (tick % (K : Int) + 1) % (K : Int) := by rw [Int.emod_add_emod]
  rw [h3, h2] at h1
  have h4 : (((phk K tick + 1) % K : Nat) : Int) = ((phk K tick : Nat) + 1 : Int) % (K : Int) := by rw [Int.natCast_emod]; rfl
  omega
/-- the places that can be reached, as they are found: from the first p places, and j neighbours of the next one. -/
def nxf (x : Bf.G) (k : Nat) (r : Nat → Bool) (p j q : Nat) : Bool := ((List.range p).any (fun p' => r p' && decide (q ∈ x.nr p')) || (r p && decide (q ∈ (x.nr p).take j))) && x.al k q
/-- a place among the first j neighbours. -/
def fnd (x : Bf.G) (p j : Nat) (z : Int) : Bool := decide (z ∈ (E.nn x p).take j)
/-- the route, place by place. -/
structure RI (x : Bf.G) (N : Nat) (tick : Int) (a0 i p : Nat) (o : List Int) : Prop where
  hi : i ≤ N
  hp : p < x.n
  hc : x.cell p = true
  ha : Bf.arr x (phk x.K (tick + (i : Int))) p = ((N - i : Nat) : Int)
  ho : o ++ ((Bf.rt x (N - i) (phk x.K (tick + (i : Int))) p).tail.map fun (q : Nat) => (q : Int)) = (Bf.rt x N (phk x.K tick) a0).map fun (q : Nat) => (q : Int)
  hl : o.length = i + 1
theorem RI.start {x : Bf.G} {N : Nat} {tick : Int} {a0 : Nat} (hp : a0 < x.n) (hc : x.cell a0 = true) (ha : Bf.arr x (phk x.K tick) a0 = (N : Int)) : RI x N tick a0 0 a0 [(a0 : Int)] := by
  refine ⟨Nat.zero_le _, hp, hc, ?_, ?_, rfl⟩
  · simpa using ha
  · obtain ⟨r, hr⟩ := Bf.rt_head x N (phk x.K tick) a0
    simp only [Int.natCast_zero, Int.add_zero, Nat.sub_zero, hr]
    rfl
theorem RI.step {x : Bf.G} (ok : x.ok) (hK : 1 ≤ x.K) {N : Nat} {tick : Int} {a0 i p : Nat} {o : List Int} (h : RI x N tick a0 i p o) (hlt : i < N) :
    RI x N tick a0 (i + 1) (Bf.nx x (phk x.K (tick + (i : Int) + 1)) p ((N : Int) - (i : Int))) (o ++ [((Bf.nx x (phk x.K (tick + (i : Int) + 1)) p ((N : Int) - (i : Int)) : Nat) : Int)]) := by
  obtain ⟨m, hm⟩ : ∃ m, N - i = m + 1 := ⟨N - i - 1, by omega⟩
  have ha := h.ha
  rw [hm] at ha
  obtain ⟨h1, h2, h3⟩ := Bf.nx_ok ok (phk_lt hK (tick + (i : Int))) h.hp h.hc (m := m) (by rw [ha]; rfl)
  have e1 : ((N : Int) - (i : Int)) = (m : Int) + 1 := by omega
  have e2 := phk_succ hK (tick + (i : Int))
  have e3 : tick + ((i + 1 : Nat) : Int) = tick + (i : Int) + 1 := by omega
  have e4 : N - (i + 1) = m := by omega
  rw [e1, e2]
  refine ⟨hlt, ok.nrlt _ _ h.hp h1, ok.alc _ _ h2, ?_, ?_, by rw [List.length_append, h.hl]; rfl⟩
  · rw [e3, e2, e4]; exact h3
  · rw [e3, e2, e4]
    have ho := h.ho
    rw [hm] at ho
    rw [← ho]
    obtain ⟨r, hr⟩ := Bf.rt_head x m ((phk x.K (tick + (i : Int)) + 1) % x.K) (Bf.nx x ((phk x.K (tick + (i : Int)) + 1) % x.K) p ((m : Int) + 1))
    simp only [Bf.rt, List.tail_cons, hr, List.map_cons, List.append_assoc, List.cons_append, List.nil_append]
theorem RI.fin {x : Bf.G} {N : Nat} {tick : Int} {a0 p : Nat} {o : List Int} (h : RI x N tick a0 N p o) : o = (Bf.rt x N (phk x.K tick) a0).map fun (q : Nat) => (q : Int) := by
  have := h.ho
  rw [Nat.sub_self] at this
  simpa [Bf.rt] using this
theorem route_err {g : C} {t a b tick : Int} (h : ¬ (arrivalR g t a b tick).2 = 0) : routeR g t a b tick = ([], (arrivalR g t a b tick).2) := by
  unfold arrivalR at *
  unfold routeR
  by_cases h1 : legE g t a b tick = 0
  · rw [if_pos h1] at h
    rw [if_pos h1, if_pos h1]
    by_cases h2 : arrv g t a b tick < 0
    · rw [if_pos h2, if_pos h2]
    · rw [if_neg h2] at h; exact absurd rfl h
  · rw [if_neg h1, if_neg h1]
theorem route_ok {g : C} {t a b tick : Int} (h : (arrivalR g t a b tick).2 = 0) : legE g t a b tick = 0 ∧ (arrivalR g t a b tick).1 = arrv g t a b tick ∧ 0 ≤ arrv g t a b tick ∧ routeR g t a b tick = (rts g t a b tick, 0) := by
  unfold arrivalR at *
  unfold routeR
  by_cases h1 : legE g t a b tick = 0
  · rw [if_pos h1] at h ⊢
    by_cases h2 : arrv g t a b tick < 0
    · rw [if_pos h2] at h; exact absurd h (by decide)
    · rw [if_neg h2, if_pos h1, if_neg h2]; exact ⟨h1, rfl, by omega, rfl⟩
  · rw [if_neg h1] at h; exact absurd h h1
theorem arr_le {g : C} {t a b tick : Int} (hL : Leg g t a b) : arrv g t a b tick ≤ 1024 := by
  have hk := ph_lt hL.c tick
  have hp : a.toNat < (G g t a b).n := by have := hL.ra; show a.toNat < g.l.length; omega
  have h1 := len_le hL.c
  have h2 := (per_of hL.c).2
  rcases Bf.arr_ar (G_ok hL) (k := ph g tick) (p := a.toNat) hk hp (cell_from hL) with ⟨h, _⟩ | ⟨_, h, _⟩
  · unfold arrv; omega
  · have h3 : g.l.length * g.s.length ≤ 64 * 16 := Nat.mul_le_mul h1 h2
    have h4 : (((G g t a b).n : Int)) * (((G g t a b).K : Nat) : Int) = ((g.l.length * g.s.length : Nat) : Int) := by rw [Int.natCast_mul]; rfl
    unfold arrv
    omega
end Rt
namespace E
open Go Go.RowKit
section
variable {P : Program} {n : Fr} {w0 : World} {F : Nat → Prop} {K : Kt} {l : Env} {H : List HP} {o : Oper}
theorem PV.add_u64 {t t' : TypeId} {x y : Operand} {p q : Int} (ho : o.op = .binOp .add t x y t') (hx : ev l x = some (.int .u64 p)) (hy : ev l y = some (.int .u64 q)) (hr : 0 ≤ p + q ∧ p + q < 18446744073709551616) : PV P n w0 F l H o (.int .u64 (p + q)) := by
  have h := PV.add (P := P) (n := n) (w0 := w0) (F := F) (H := H) ho hx hy
  rwa [show IntKind.u64.wrap (p + q) = p + q by rw [IntKind.wrap_u64]; omega] at h
/-- a slice without its first element. -/
def tl (A : Option Addr) (c : Nat) : Option Addr := if c = 1 then A else A.map (·.add (1 * 1))
theorem PV.tail {t Et bytes m c : Nat} {x y : Operand} {z : Value} {A : Option Addr} (hT : P.underlying t = some (.slice Et)) (hI : In P Et z 1 bytes) (ho : o.op = .slice t x (some y) none none) (hx : ev l x = some (.slice A m c)) (hy : ev l y = some (.int .i64 1)) (hm : 1 ≤ m) :
    PV P n w0 F l H o (.slice (tl A c) (m - 1) (c - 1)) := fun a w ha _ => by
  obtain ⟨inf, hinf, hz0, hz1, hz2⟩ := hI.parts
  have hel : P.elem t = Et := by simp [Program.elem, hT]
  have hr := run_slice_l (P := P) w t A m c (by rw [hel]; exact hT) .i64 1 (by omega) (by omega)
  rw [hel] at hr
  have hsa := run_sliceAt_slice (P := P) w t (.slice A m c) (some (.int .i64 1)) none none (by rw [hel]; exact hT)
  simp [execOp, ho, ha.ev hx, ha.ev hy, hsa, hr, sizeOf, typeInfo, hinf, hz1, Result.andThen, sliced, tl]
theorem Rd.tail {w : World} {G : Nat → Prop} {A : Option Addr} {c : Nat} {l : List Int} (h : Rd w G A (ints l)) (hc : l.length ≤ c) : Rd w G (tl A c) (ints l.tail) := fun hx => by
  have hl : 1 < l.length := by simp at hx; omega
  obtain ⟨ad, h1, h2, h3⟩ := h (by simp; omega)
  subst h1
  unfold tl
  rw [if_neg (by omega)]
  refine ⟨ad.add (1 * 1), rfl, by rw [Addr.add_block]; exact h2, fun j u hu => ?_⟩
  rw [Addr.add_add']
  refine h3 (1 * 1 + j) u ?_
  rw [← hu]
  cases l with
  | nil => simp at hl
  | cons q r => simp [ints, Nat.add_comm]
end
end E
end Go.Proofs.Ytflkbabhbnmajaa

/- Closed facts on the program (printed by gen.py). -/
namespace Go.Proofs.Ytflkbabhbnmajaa
open Go Go.RowKit
set_option linter.unusedSimpArgs false
set_option linter.unusedVariables false
theorem is30 : E.Is Try.prog 30 2 := ⟨fun _ => by kernel_rfl, fun _ => by kernel_rfl⟩
theorem nm58 : E.Nm Try.prog 58 := ⟨Try.f58, Try.func58, rfl, by kernel_rfl⟩
theorem nm59 : E.Nm Try.prog 59 := ⟨Try.f59, Try.func59, rfl, by kernel_rfl⟩
theorem nm60 : E.Nm Try.prog 60 := ⟨Try.f60, Try.func60, rfl, by kernel_rfl⟩
end Go.Proofs.Ytflkbabhbnmajaa
