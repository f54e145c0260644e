/- The projection of a config, plainly. -/
import Derived.Test.YteibcphdbkgcgaaDis
import Derived.Test.YteibcphdbkgcgaaMk
namespace Go.Proofs.Yteibcphdbkgcgaa
set_option linter.unusedVariables false
namespace Cf
def onlyR (g : C) (t : Int) : C × Int := if check g = 0 then (if present g.ts t then (only g t, 0) else (zero, 2)) else (zero, check g)
theorem present_b {ts : List T} {t : Int} (h : present ts t = true) : 0 ≤ t ∧ t < ts.length := by
  unfold present at h
  simp only [Bool.and_eq_true, decide_eq_true_eq] at h
  exact h.1
theorem check_zero {g : C} (h : check g = 0) : Fl.validF g.a g.b g.l = true ∧ Fl.validS g.s = true ∧ teamsOk g = true ∧ g.st ≤ 4611686018427387904 := by
  unfold check at h
  split at h
  · rename_i h1
    split at h
    · rename_i h2
      split at h
      · rename_i h3
        split at h
        · rename_i h4; exact ⟨h1, h2, h3, h4⟩
        · cases h
      · cases h
    · cases h
  · cases h
theorem teams_len {g : C} (h : teamsOk g = true) : 1 ≤ g.ts.length ∧ g.ts.length ≤ 3 := by
  unfold teamsOk at h
  simp only [Bool.and_eq_true, decide_eq_true_eq] at h
  exact ⟨h.1.1.1.1.1, h.1.1.1.1.2⟩
theorem oc_no {t : Int} {v : UInt8} (h1 : ¬ (v.toNat : Int) = t + 1) (h2 : ¬ (v.toNat : Int) = 255) : oc t v = 0 := if_neg (by omega)
theorem oc_yes {t : Int} {v : UInt8} (h : (v.toNat : Int) = t + 1 ∨ (v.toNat : Int) = 255) : oc t v = v := if_pos h
theorem os_no {t : Int} {v : UInt8} (h1 : ¬ (v.toNat : Int) = t + 1) : os t v = 0 := if_neg h1
theorem os_yes {t : Int} {v : UInt8} (h : (v.toNat : Int) = t + 1) : os t v = v := if_pos h
theorem set_q {g : E.Cfg} {t : Int} {m : E.Tm} (h : 0 ≤ t ∧ t < g.ts.length) (hm : m.q = (g.ts.getD t.toNat E.Tm.z).q) : ((List.replicate g.ts.length E.Tm.z).set t.toNat m).map (·.q) = oneTeam g.q.ts t g.q.ts.length := by
  have e := oneTeam_set (ts := g.q.ts) (t := t) (by rw [E.Cfg.ts_len]; exact h)
  rw [← e, List.map_set, List.map_replicate, hm, E.Cfg.ts_getD, E.Cfg.ts_len]
  rfl
theorem one_q {g : E.Cfg} {t : Int} {k : Nat} {tt : List E.Tm} {m : E.Tm} (h : tt.map (·.q) = oneTeam g.q.ts t k) (hm : m.q = if (k : Int) = t then (g.ts.getD k E.Tm.z).q else T.z) : (tt ++ [m]).map (·.q) = oneTeam g.q.ts t (k + 1) := by
  rw [oneTeam_succ, List.map_append, h, List.map_cons, List.map_nil, hm, E.Cfg.ts_getD]
theorem zero_fit : zero.fit := ⟨by simp [zero, i64], by simp [zero, i64], by simp [zero], by simp [zero], by simp [zero], (fun t ht => by cases ht), by simp [zero]⟩
theorem only_fit {g : C} {t : Int} (h : g.fit) : (only g t).fit := ⟨h.a, h.b, by simp [only]; exact h.l, by simp [only]; exact h.s, by simp [only, oneTeam]; exact h.t, fun q hq => by
  simp only [only, oneTeam, List.mem_map, List.mem_range] at hq
  obtain ⟨i, hi, rfl⟩ := hq
  split
  · exact h.m _ (by rw [List.getD_eq_getElem?_getD, List.getElem?_eq_getElem hi, Option.getD_some]; exact List.getElem_mem hi)
  · exact T.z_fit, h.st⟩
theorem onlyR_fit {g : C} {t : Int} (h : g.fit) : (onlyR g t).1.fit := by
  unfold onlyR
  split
  · split
    · exact only_fit h
    · exact zero_fit
  · exact zero_fit
end Cf
namespace E
def Tm.sz (m : Tm) : Prop := m.q.h.length ≤ 140737488351232 ∧ m.q.p.length ≤ 140737488351232 ∧ m.q.d.length ≤ 140737488351232
theorem sz_set {ts : List Tm} {i : Nat} {m : Tm} (h : ∀ m ∈ ts, m.sz) (hm : m.sz) : ∀ q ∈ ts.set i m, q.sz := fun q hq => by
  rcases List.mem_or_eq_of_mem_set hq with h' | rfl
  · exact h q h'
  · exact hm
theorem sz_fit {g : Cfg} (h : g.q.fit) : ∀ m ∈ g.ts, m.sz := fun m hm => by
  have hf := Cfg.fit_m h m hm
  have h1 := hf.h
  have h2 := hf.p
  have h3 := hf.d
  exact ⟨by omega, by omega, by omega⟩
theorem Tm.new_cells {m : Tm} {a b c : List Int} (h1 : a.length = m.q.h.length) (h2 : b.length = m.q.p.length) (h3 : c.length = m.q.d.length) : Tm.cells ⟨⟨a, b, c, m.q.n1, m.q.n2, m.q.n3, m.q.n4, m.q.n5⟩, m.A1, m.A2, m.A3, m.c1, m.c2, m.c3⟩ = m.cells := by
  simp [Tm.cells, h1, h2, h3]
section
variable {P : Program} {n : Nat} {w0 : World} {F : Nat → Prop} {K : Kt} {l : Env} {H : List HP}
theorem CW.heq {c : Code} {H' : List HP} (h : H = H') (k : CW P n w0 F c K l H') : CW P n w0 F c K l H := by rw [h]; exact k
theorem CW.chunk {c : Code} (i : Nat) {p : HP} (p' : HP) {H' : List HP} (hi : sel H i = some (p, H')) (he : p = p') (k : CW P n w0 F c K l (p' :: H')) : CW P n w0 F c K l H := fun a w ha hw => k a w ha (he ▸ hw.sel hi)
/-- the j-th team taken out. -/
theorem CW.tmsget {c : Code} (i j : Nat) {ts : List Tm} {H' : List HP} (hi : sel H i = some (HP.tms ts, H')) (hj : j < ts.length) (h : CW P n w0 F c K l (HP.tm (ts.getD j Tm.z) :: HP.tms (ts.set j Tm.z) :: H')) : CW P n w0 F c K l H := fun a w ha hw => by
  have h1 := hw.sel hi
  refine h a w ha { h1 with chunks := ?_ }
  obtain ⟨S, g1, b1, g3⟩ := h1.chunks
  have hp : (ts.map HP.tm).Perm (HP.tm (ts.getD j Tm.z) :: (ts.eraseIdx j).map HP.tm) := by
    have e : ts.getD j Tm.z = ts[j] := by simp [List.getD, hj]
    rw [e, ← List.map_cons]; exact (erase_perm hj).map _
  have hq : (HP.tm Tm.z :: (ts.eraseIdx j).map HP.tm).Perm ((ts.set j Tm.z).map HP.tm) := by
    rw [← List.map_cons]
    refine List.Perm.map _ ?_
    have := (erase_perm (l := ts.set j Tm.z) (j := j) (by simpa using hj)).symm
    rwa [List.getElem_set_self, List.eraseIdx_set_eq] at this
  obtain ⟨T1, T2, e1, e2, e3, e4⟩ := bagS_perm hp g1
  have hrow : (HP.row 3 1 .none 0 0 []).sem (fun _ => False) w := ⟨fun k => by simp [Value.ownBlock], World.ownsRow_nil w 0 3 1⟩
  have hz : (HP.tm Tm.z).sem (fun _ => False) w :=
    ⟨fun _ => False, fun _ => False, fun _ => by simp, fun _ h => h.elim, hrow, fun _ => False, fun _ => False, fun _ => by simp, fun _ h => h.elim, hrow, fun _ => False, fun _ => False, fun _ => by simp, fun _ h => h.elim, hrow, fun _ h => h⟩
  refine ⟨T1, e3, fun q hq => b1 q ((e1 q).2 (.inl hq)), T2, bagS_perm hq ⟨fun _ => False, T2, fun _ => by simp, fun _ h => h.elim, hz, e4⟩, fun q hq => ⟨(b1 q ((e1 q).2 (.inr hq))).1, ?_⟩, g3.congr fun q => ?_⟩
  · rintro (hu | ht)
    · exact (b1 q ((e1 q).2 (.inr hq))).2 hu
    · exact e2 q ht hq
  · rw [e1 q, or_assoc]
theorem tms_same : ∀ {ts : List Tm} {j : Nat} {m : Tm}, m.cells = (ts.getD j Tm.z).cells → tms (ts.set j m) = tms ts := by
  intro ts
  induction ts with
  | nil => intro j m _; rfl
  | cons q r ih =>
    intro j m h
    cases j with
    | zero => simp only [List.set_cons_zero, tms]; rw [h]; rfl
    | succ j => simp only [List.set_cons_succ, tms]; rw [ih (by simpa using h)]
theorem CW.tmz {c : Code} (k : CW P n w0 F c K l (HP.tm Tm.z :: H)) : CW P n w0 F c K l H := CW.conv (fun w U hc => by
  have hrow : (HP.row 3 1 .none 0 0 []).sem (fun _ => False) w := ⟨fun k => by simp [Value.ownBlock], World.ownsRow_nil w 0 3 1⟩
  exact ⟨fun _ => False, ⟨fun _ => False, fun _ => False, fun _ => by simp, fun _ h => h.elim, hrow, fun _ => False, fun _ => False, fun _ => by simp, fun _ h => h.elim, hrow, fun _ => False, fun _ => False, fun _ => by simp, fun _ h => h.elim, hrow, fun _ h => h⟩,
    fun _ h => h.elim, hc.congr fun k => by simp⟩) k
end
end E
end Go.Proofs.Yteibcphdbkgcgaa
