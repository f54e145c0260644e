/- Teams and configs in memory: several chunks kept as one, rows of teams. No program in sight. -/
import Derived.Test.YteibcphdbkgcgaaLaws
import Derived.Test.YteibcphdbkgcgaaCf
namespace Go.Proofs.Yteibcphdbkgcgaa
namespace E
open Go Go.RowKit
set_option linter.unusedSimpArgs false
set_option linter.unusedVariables false

structure Tm where
  q : Cf.T
  A1 : Option Addr
  A2 : Option Addr
  A3 : Option Addr
  c1 : Nat
  c2 : Nat
  c3 : Nat
def Tm.z : Tm := ⟨Cf.T.z, none, none, none, 0, 0, 0⟩
def Tm.cells (m : Tm) : List Value := [.slice m.A1 m.q.h.length m.c1, .slice m.A2 m.q.p.length m.c2, .slice m.A3 m.q.d.length m.c3, .int .i64 m.q.n1, .int .i64 m.q.n2, .int .i64 m.q.n3, .int .i64 m.q.n4, .int .i64 m.q.n5]
def Tm.v (m : Tm) : Value := .agg m.cells.toArray
def Tm.rd (w : World) (G : Nat → Prop) (m : Tm) : Prop := Rd w G m.A1 (ints m.q.h) ∧ Rd w G m.A2 (ints m.q.p) ∧ Rd w G m.A3 (ints m.q.d)
def tms : List Tm → List Value
  | [] => []
  | m :: r => m.cells ++ tms r
theorem tms_append (a b : List Tm) : tms (a ++ b) = tms a ++ tms b := by
  induction a with
  | nil => rfl
  | cons m r ih => simp only [List.cons_append, tms, ih, List.append_assoc]
@[simp] theorem tms_length (ts : List Tm) : (tms ts).length = ts.length * 8 := by
  induction ts with
  | nil => rfl
  | cons m r ih => simp only [tms, List.length_append, ih, List.length_cons]; simp only [Tm.cells, List.length_cons, List.length_nil]; omega
theorem Tm.one (m : Tm) : ∀ u ∈ m.cells, u.oneCell' = true := by
  intro u hu; simp only [Tm.cells, List.mem_cons, List.not_mem_nil, or_false] at hu
  rcases hu with rfl | rfl | rfl | rfl | rfl | rfl | rfl | rfl <;> rfl
theorem tms_one {ts : List Tm} : ∀ u ∈ tms ts, u.oneCell' = true := by
  induction ts with
  | nil => intro u hu; cases hu
  | cons m r ih =>
    intro u hu
    simp only [tms, List.mem_append] at hu
    exact hu.elim (m.one u) (ih u)
theorem tms_get : ∀ {ts : List Tm} {k j : Nat} {v : Value}, k < ts.length → (ts.getD k Tm.z).cells[j]? = some v → (tms ts)[k * 8 + j]? = some v := by
  intro ts
  induction ts with
  | nil => intro k j v h; simp at h
  | cons m r ih =>
    intro k j v hk hv
    have hj : j < 8 := by
      rcases Nat.lt_or_ge j 8 with h | h
      · exact h
      · rw [List.getElem?_eq_none (by simp [Tm.cells]; omega)] at hv; cases hv
    cases k with
    | zero =>
      simp only [tms]
      rw [List.getElem?_append_left (by simp [Tm.cells]; omega)]
      simpa using hv
    | succ k =>
      simp only [tms]
      rw [List.getElem?_append_right (by simp [Tm.cells]; omega)]
      have h8 : m.cells.length = 8 := rfl
      rw [h8, show (k + 1) * 8 + j - 8 = k * 8 + j by omega]
      exact ih (by simpa using hk) (by simpa using hv)
theorem Tm.mem {ts : List Tm} {k : Nat} (h : k < ts.length) : ts.getD k Tm.z ∈ ts := by
  rw [List.getD_eq_getElem?_getD, List.getElem?_eq_getElem h, Option.getD_some]; exact List.getElem_mem h

/-! ### Several chunks as one -/
def bagS (w : World) : (Nat → Prop) → List HP → Prop
  | S, [] => ∀ k, ¬ S k
  | S, p :: r => ∃ S1 S2 : Nat → Prop, (∀ k, S k ↔ S1 k ∨ S2 k) ∧ (∀ k, S1 k → ¬ S2 k) ∧ p.sem S1 w ∧ bagS w S2 r
theorem bagS_loc {w w' : World} {ps : List HP} : ∀ {S : Nat → Prop}, (∀ k, S k → w'.heap[k]? = w.heap[k]?) → bagS w S ps → bagS w' S ps := by
  induction ps with
  | nil => intro S _ h; exact h
  | cons p r ih =>
    intro S hk ⟨S1, S2, h1, h2, h3, h4⟩
    exact ⟨S1, S2, h1, h2, p.loc S1 w w' (fun k h => hk k ((h1 k).2 (.inl h))) h3, ih (fun k h => hk k ((h1 k).2 (.inr h))) h4⟩
theorem bagS_congr {w : World} {ps : List HP} {S S' : Nat → Prop} (h : ∀ k, S k ↔ S' k) (hb : bagS w S ps) : bagS w S' ps := by
  cases ps with
  | nil => exact fun k hk => hb k ((h k).2 hk)
  | cons p r => obtain ⟨S1, S2, h1, h2⟩ := hb; exact ⟨S1, S2, fun k => (h k).symm.trans (h1 k), h2⟩
theorem bagS_perm {w : World} {ps qs : List HP} (hp : ps.Perm qs) : ∀ {S : Nat → Prop}, bagS w S ps → bagS w S qs := by
  induction hp with
  | nil => intro _ h; exact h
  | cons x _ ih => intro S ⟨S1, S2, h1, h2, h3, h4⟩; exact ⟨S1, S2, h1, h2, h3, ih h4⟩
  | swap x y l =>
    intro S ⟨S1, S2, h1, h2, h3, T1, T2, g1, g2, g3, g4⟩
    refine ⟨T1, fun k => S1 k ∨ T2 k, fun k => ?_, fun k hk => ?_, g3, S1, T2, fun _ => Iff.rfl, fun k hk ht => h2 k hk ((g1 k).2 (.inr ht)), h3, g4⟩
    · rw [h1 k, g1 k]; constructor <;> intro h <;> rcases h with h | h | h <;> simp [h]
    · rintro (h | h)
      · exact h2 k h ((g1 k).2 (.inl hk))
      · exact g2 k hk h
  | trans _ _ ih1 ih2 => intro S h; exact ih2 (ih1 h)
theorem bagS_mem {w : World} {ps : List HP} {p : HP} (hp : p ∈ ps) : ∀ {S : Nat → Prop}, bagS w S ps → ∃ S', p.sem S' w := by
  induction ps with
  | nil => cases hp
  | cons q r ih =>
    intro S ⟨S1, S2, _, _, h3, h4⟩
    rcases List.mem_cons.1 hp with rfl | h
    · exact ⟨S1, h3⟩
    · exact ih h h4
def HP.bag (ps : List HP) : HP where
  sem S w := bagS w S ps
  loc := fun _ _ _ h hb => bagS_loc h hb

theorem Chunks.bag_nil {w : World} {U : Nat → Prop} {r : List HP} (h : Chunks w U r) : Chunks w U (HP.bag [] :: r) :=
  ⟨fun _ => False, fun _ hk => hk, fun _ hk => hk.elim, h.congr fun k => by simp⟩
theorem Chunks.bag_in {w : World} {U : Nat → Prop} {p : HP} {ps r : List HP} (h : Chunks w U (p :: HP.bag ps :: r)) : Chunks w U (HP.bag (p :: ps) :: r) := by
  obtain ⟨S1, h1, b1, S2, h2, b2, h3⟩ := h
  refine ⟨fun k => S1 k ∨ S2 k, ⟨S1, S2, fun _ => Iff.rfl, fun k hk h => (b2 k h).2 (.inr hk), h1, h2⟩, fun k hk => ?_, h3.congr fun k => ?_⟩
  · rcases hk with hk | hk
    · exact b1 k hk
    · exact ⟨(b2 k hk).1, fun hu => (b2 k hk).2 (.inl hu)⟩
  · constructor <;> intro h <;> simpa [or_assoc] using h
theorem Chunks.bag_out {w : World} {U : Nat → Prop} {p : HP} {ps r : List HP} (h : Chunks w U (HP.bag (p :: ps) :: r)) : Chunks w U (p :: HP.bag ps :: r) := by
  obtain ⟨S, ⟨S1, S2, g1, g2, g3, g4⟩, b, h3⟩ := h
  refine ⟨S1, g3, fun k hk => b k ((g1 k).2 (.inl hk)), S2, g4, fun k hk => ⟨(b k ((g1 k).2 (.inr hk))).1, ?_⟩, h3.congr fun k => ?_⟩
  · rintro (hu | hs)
    · exact (b k ((g1 k).2 (.inr hk))).2 hu
    · exact g2 k hs hk
  · rw [g1 k]; constructor <;> intro h <;> simpa [or_assoc] using h
theorem Chunks.bag_perm {w : World} {U : Nat → Prop} {ps qs r : List HP} (hp : ps.Perm qs) (h : Chunks w U (HP.bag ps :: r)) : Chunks w U (HP.bag qs :: r) := by
  obtain ⟨S, h1, h2⟩ := h
  exact ⟨S, bagS_perm hp h1, h2⟩
theorem Chunks.cons_mono {w : World} {p : HP} {r r' : List HP} {U : Nat → Prop} (h : ∀ V, Chunks w V r → Chunks w V r') (hc : Chunks w U (p :: r)) : Chunks w U (p :: r') := by
  obtain ⟨S, h1, h2, h3⟩ := hc
  exact ⟨S, h1, h2, h _ h3⟩
theorem Chunks.gather {w : World} {ps r : List HP} : ∀ {U : Nat → Prop}, Chunks w U (ps ++ r) → Chunks w U (HP.bag ps :: r) := by
  induction ps with
  | nil => intro U h; exact h.bag_nil
  | cons p ps ih => intro U h; exact Chunks.bag_in (Chunks.cons_mono (fun V => ih) h)
theorem Chunks.open {w : World} {ps r : List HP} : ∀ {U : Nat → Prop}, Chunks w U (HP.bag ps :: r) → Chunks w U (ps ++ r) := by
  induction ps with
  | nil => intro U ⟨S, h1, _, h3⟩; exact h3.mono fun k hk => .inl hk
  | cons p ps ih => intro U h; exact Chunks.cons_mono (fun V => ih) h.bag_out

section
variable {P : Program} {n : Nat} {w0 : World} {F : Nat → Prop} {K : Kt} {l : Env} {H : List HP} {o : Oper}
theorem CW.conv {c : Code} {H' : List HP} (h : ∀ w U, Chunks w U H → Chunks w U H') (k : CW P n w0 F c K l H') : CW P n w0 F c K l H := fun a w ha hw => k a w ha { hw with chunks := h w _ hw.chunks }
theorem CW.gather {c : Code} {H1 ps r : List HP} (is : List Nat) (m : Nat) (hs : E.sels H is = some H1) (h2 : spl H1 m = some (ps, r)) (k : CW P n w0 F c K l (HP.bag ps :: r)) : CW P n w0 F c K l H :=
  CW.sels is hs (CW.conv (fun w U h => by rw [spl_eq h2] at h; exact h.gather) k)
theorem CW.open {c : Code} {ps r : List HP} (i : Nat) (hs : sel H i = some (HP.bag ps, r)) (k : CW P n w0 F c K l (ps ++ r)) : CW P n w0 F c K l H := fun a w ha hw =>
  k a w ha { hw.sel hs with chunks := (hw.sel hs).chunks.open }

/-! ### Teams -/
def HP.tm (m : Tm) : HP := HP.bag [HP.row 3 1 m.A1 m.q.h.length m.c1 (ints m.q.h), HP.row 3 1 m.A2 m.q.p.length m.c2 (ints m.q.p), HP.row 3 1 m.A3 m.q.d.length m.c3 (ints m.q.d)]
def HP.tms (ts : List Tm) : HP := HP.bag (ts.map HP.tm)
theorem CW.tmsnil {c : Code} (k : CW P n w0 F c K l (HP.tms [] :: H)) : CW P n w0 F c K l H := CW.conv (fun w U h => h.bag_nil) k
theorem CW.tmsnoc {c : Code} {H1 : List HP} {m : Tm} {ts : List Tm} (i j : Nat) {H2 : List HP} (hi : sel H i = some (HP.tm m, H1)) (hj : sel H1 j = some (HP.tms ts, H2)) (k : CW P n w0 F c K l (HP.tms (ts ++ [m]) :: H2)) : CW P n w0 F c K l H := fun a w ha hw => by
  have h1 := hw.perm ((sel_perm hi).trans ((sel_perm hj).cons _))
  refine k a w ha { h1 with chunks := ?_ }
  have h2 := Chunks.bag_in h1.chunks
  refine Chunks.bag_perm ?_ h2
  simp only [List.map_append, List.map_cons, List.map_nil]
  exact (List.perm_append_comm (l₁ := [HP.tm m]) (l₂ := ts.map HP.tm))

theorem rd_row {w : World} {S : Nat → Prop} {Et sz m c : Nat} {A : Option Addr} {xs : List Value} (h : (HP.row Et sz A m c xs).sem S w) : Rd w (Old w) A xs := rd_of_owns h.2
theorem tm_rd {w : World} {S : Nat → Prop} {m : Tm} (h : (HP.tm m).sem S w) : m.rd w (Old w) := by
  obtain ⟨_, _, _, _, h1, _, _, _, _, h2, _, _, _, _, h3, _⟩ := h
  exact ⟨rd_row h1, rd_row h2, rd_row h3⟩
theorem tms_rd {w : World} {S : Nat → Prop} {ts : List Tm} (h : (HP.tms ts).sem S w) : ∀ m ∈ ts, m.rd w (Old w) := fun m hm => by
  obtain ⟨S', h'⟩ := bagS_mem (p := HP.tm m) (List.mem_map.2 ⟨m, hm, rfl⟩) h
  exact tm_rd h'
theorem HA.rdm {w : World} (h : HA w0 F H w) {m : Tm} (hr : m.rd w0 F) : m.rd w (Old w) := ⟨h.rd hr.1, h.rd hr.2.1, h.rd hr.2.2⟩
theorem HA.rdtm {w : World} (h : HA w0 F H w) {i : Nat} {m : Tm} {H' : List HP} (hi : E.sel H i = some (HP.tm m, H')) : m.rd w (Old w) := by
  obtain ⟨S, h1, _⟩ := (h.sel hi).chunks
  exact tm_rd h1
theorem HA.rdtms {w : World} (h : HA w0 F H w) {i : Nat} {ts : List Tm} {H' : List HP} (hi : E.sel H i = some (HP.tms ts, H')) : ∀ m ∈ ts, m.rd w (Old w) := by
  obtain ⟨S, h1, _⟩ := (h.sel hi).chunks
  exact tms_rd h1

theorem PV.load_tm {t : TypeId} {x : Operand} {A : Option Addr} {k : Nat} {ts : List Tm} (hR : ∀ w, HA w0 F H w → Rd w (Old w) A (E.tms ts)) (ht : Is P t 8) (ho : o.op = .load t x) (hx : ev l x = some (eptr A (k * 8))) (hk : k < ts.length) :
    PV P n w0 F l H o (ts.getD k Tm.z).v :=
  PV.loads_of hR (by exact ht) (by simp [Tm.cells]) ho hx fun i v hv => tms_get hk hv

/-- one more team, out of a slice literal (the chunk j, which is dropped). -/
theorem OW.app_tm {ops : Array Oper} {rest : List Oper} {d : Nat} {s x : Operand} {t Et i bytes c : Nat} {z : Value} {zs : List Value} {A A2 : Option Addr} {ts : List Tm} {m : Tm} {j cc : Nat} {H2 H3 : List HP}
    (hT : P.underlying t = some (.slice Et)) (hI : In P Et z 8 bytes) (hz : z.cells = zs.toArray) (hzl : zs.length = 8)
    (ho : o.op = .call { callee := .builtin .append, args := #[s, x], argTypes := #[t, t] }) (hg : gd ops l o.guard = some true) (hd : o.dst = some d) (hn : Nat.blt d n = true)
    (hs : ev l s = some (.slice A ts.length c)) (hx : ev l x = some (.slice A2 1 cc)) (hj : sel H j = some (HP.row Et 8 A2 1 cc (E.tms [m]), H2)) (hi : sel H2 i = some (HP.row Et 8 A ts.length c (E.tms ts), H3))
    (h63 : ts.length + 1 ≤ maxLen) (hb : (ts.length + 1) * bytes ≤ 140737488355328)
    (k : ∀ A' c', OW P n w0 F ops K rest ((d, .slice A' (ts ++ [m]).length c') :: l) (HP.row Et 8 A' (ts ++ [m]).length c' (E.tms (ts ++ [m])) :: H3)) : OW P n w0 F ops K (o :: rest) l H := by
  have hpm := (sel_perm hj).trans ((sel_perm hi).cons _ |>.trans (List.Perm.swap _ _ _))
  refine fun a w ha hw => OW.append (H := HP.row Et 8 A ts.length c (E.tms ts) :: HP.row Et 8 A2 1 cc (E.tms [m]) :: H3) (i := 0) (H' := HP.row Et 8 A2 1 cc (E.tms [m]) :: H3) (ys := E.tms [m]) hT hI hz hzl (by omega) ho hg hd hn hs hx rfl
    (fun w hw => hw.rdrow (i := 1) rfl) rfl tms_one h63 hb (fun A' c' => ?_) a w ha (hw.perm hpm)
  refine OW.drop 1 rfl ?_
  have h := k A' c'
  rw [tms_append] at h
  simpa only [List.length_append, List.length_cons, List.length_nil, Nat.zero_add] using h

/-! ### Configs -/
structure Cfg where
  a : Int
  b : Int
  l : List UInt8
  s : List UInt8
  ts : List Tm
  st : Int
  A : Option Addr
  c : Nat
  A1 : Option Addr
  c1 : Nat
  A2 : Option Addr
  c2 : Nat
def Cfg.q (g : Cfg) : Cf.C := ⟨g.a, g.b, g.l, g.s, g.ts.map (·.q), g.st⟩
def Cfg.cells (g : Cfg) : List Value := [.int .i64 g.a, .int .i64 g.b, .slice g.A g.l.length g.c, .slice g.A1 g.s.length g.c1, .slice g.A2 g.ts.length g.c2, .int .u64 g.st]
def Cfg.v (g : Cfg) : Value := .agg g.cells.toArray
structure Cfg.rd (w : World) (G : Nat → Prop) (g : Cfg) : Prop where
  l : Rd w G g.A (u8s g.l)
  s : Rd w G g.A1 (u8s g.s)
  t : Rd w G g.A2 (E.tms g.ts)
  m : ∀ m ∈ g.ts, m.rd w G
theorem Cfg.fit_len {g : Cfg} (h : g.q.fit) : g.l.length ≤ 140737488351232 ∧ g.s.length ≤ 140737488351232 ∧ g.ts.length * 112 ≤ 140737488351232 := ⟨h.l, h.s, by have := h.t; simpa [Cfg.q] using this⟩
theorem Cfg.fit_m {g : Cfg} (h : g.q.fit) : ∀ m ∈ g.ts, m.q.fit := fun m hm => h.m m.q (List.mem_map.2 ⟨m, hm, rfl⟩)
theorem Cfg.q_eq {g h : Cfg} : g.q = h.q ↔ g.a = h.a ∧ g.b = h.b ∧ g.l = h.l ∧ g.s = h.s ∧ g.ts.map (·.q) = h.ts.map (·.q) ∧ g.st = h.st := by
  simp [Cfg.q]
theorem Cfg.q_len {g h : Cfg} (e : ¬ (g.ts.length : Int) = h.ts.length) : ¬ g.q = h.q := fun hq => of_decide_eq_false (Cf.map_len e) (Cfg.q_eq.1 hq).2.2.2.2.1
theorem Cfg.q_at {g h : Cfg} {k : Nat} (h1 : k < g.ts.length) (h2 : k < h.ts.length) (e : ¬ (g.ts.getD k Tm.z).q = (h.ts.getD k Tm.z).q) : ¬ g.q = h.q := fun hq => of_decide_eq_false (Cf.map_ne h1 h2 e) (Cfg.q_eq.1 hq).2.2.2.2.1
def HP.cfg (g : Cfg) : HP := HP.bag [HP.row 5 1 g.A g.l.length g.c (u8s g.l), HP.row 5 1 g.A1 g.s.length g.c1 (u8s g.s), HP.row 52 8 g.A2 g.ts.length g.c2 (E.tms g.ts), HP.tms g.ts]
theorem HA.rdC {w : World} (h : HA w0 F H w) {g : Cfg} (hr : g.rd w0 F) : g.rd w (Old w) := ⟨h.rd hr.l, h.rd hr.s, h.rd hr.t, fun m hm => h.rdm (hr.m m hm)⟩
theorem cfg_rd {w : World} {S : Nat → Prop} {g : Cfg} (h : (HP.cfg g).sem S w) : g.rd w (Old w) := by
  obtain ⟨_, _, _, _, h1, _, _, _, _, h2, _, _, _, _, h3, _, _, _, _, h4, _⟩ := h
  exact ⟨rd_row h1, rd_row h2, rd_row h3, tms_rd h4⟩
theorem HA.rdcfg {w : World} (h : HA w0 F H w) {i : Nat} {g : Cfg} {H' : List HP} (hi : E.sel H i = some (HP.cfg g, H')) : g.rd w (Old w) := by
  obtain ⟨S, h1, _⟩ := (h.sel hi).chunks
  exact cfg_rd h1
end
end E
end Go.Proofs.Yteibcphdbkgcgaa
