/- Draw and Parse are inverse: no program in sight. -/
import Derived.Test.YteibcphdbkgcgaaFlO
namespace Go.Proofs.Yteibcphdbkgcgaa
namespace Fl
set_option linter.unusedVariables false
abbrev St := Int × Int × Int × List UInt8
def fold (s : St) (l : List UInt8) : Option St := l.foldl (fun o c => match o with | some s => pstep s c | none => none) (some s)
theorem fold_nil (s : St) : fold s [] = some s := rfl
theorem fold_none (l : List UInt8) : l.foldl (fun (o : Option St) c => match o with | some s => pstep s c | none => none) none = none := by
  induction l with
  | nil => rfl
  | cons c r ih => exact ih
theorem fold_app (s : St) (a b : List UInt8) : fold s (a ++ b) = match fold s a with | some s' => fold s' b | none => none := by
  unfold fold
  rw [List.foldl_append]
  cases h : List.foldl (fun (o : Option St) c => match o with | some s => pstep s c | none => none) (some s) a with
  | some s' => rfl
  | none => exact fold_none b
theorem fold_one (s : St) (c : UInt8) : fold s [c] = pstep s c := rfl
theorem scan_take (l : List UInt8) : ∀ k, k ≤ l.length → scan l k = fold (0, 0, 0, []) (l.take k) := by
  intro k
  induction k with
  | zero => intro _; rfl
  | succ k ih =>
    intro hk
    rw [List.take_succ_eq_append_getElem (by omega), fold_app, ← ih (by omega)]
    have : l[k] = l.getD k 0 := by simp [List.getD, show k < l.length by omega]
    rw [this]
    show (match scan l k with | some s => pstep s (l.getD k 0) | none => none) = _
    cases scan l k <;> rfl
theorem value_chr {c : UInt8} (hok : okc c = true) : value (chr c) = some c ∧ ¬ ((chr c).toNat : Int) = 10 := by
  have h : c.toNat = 0 ∨ c.toNat = 1 ∨ c.toNat = 2 ∨ c.toNat = 3 ∨ c.toNat = 255 := by
    simp only [okc, Bool.or_eq_true, decide_eq_true_eq] at hok; omega
  rcases h with h | h | h | h | h <;> rw [show c = UInt8.ofNat _ from u8_eq h] <;> decide
theorem pstep_chr {n W H : Int} {cs : List UInt8} {c : UInt8} (hok : okc c = true) : pstep (n, W, H, cs) (chr c) = some (n + 1, W, H, cs ++ [c]) := by
  have := value_chr hok
  unfold pstep
  rw [if_neg this.2, this.1]
theorem pstep_nl {n W H : Int} {cs : List UInt8} (h : ¬ (0 < H ∧ ¬ n = W)) : pstep (n, W, H, cs) 10 = some (0, n, H + 1, cs) := by
  unfold pstep
  rw [if_pos (show ((10 : UInt8).toNat : Int) = 10 from rfl), if_neg h]
theorem fold_draws {w h : Int} {l : List UInt8} (hv : validF w h l = true) : ∀ k, k ≤ l.length → fold (0, 0, 0, []) (draws w l k) = some ((k : Int) % w, (if (k : Int) < w then 0 else w), (k : Int) / w, l.take k) := by
  have hw := valid_iff.1 (validF_iff.1 hv).1.1
  intro k
  induction k with
  | zero => intro _; simp [draws, fold_nil]; omega
  | succ k ih =>
    intro hk
    have hok := okc_at hv (show k < l.length by omega)
    have htk : l.take (k + 1) = l.take k ++ [l.getD k 0] := by
      rw [List.take_succ_eq_append_getElem (by omega)]; simp [List.getD, show k < l.length by omega]
    have e1 := Int.emod_add_mul_ediv (k : Int) w
    have e2 := Int.emod_nonneg (k : Int) (show w ≠ 0 by omega)
    have e3 := Int.emod_lt_of_pos (k : Int) (show 0 < w by omega)
    have e4 : 0 ≤ (k : Int) / w := Int.ediv_nonneg (by omega) (by omega)
    by_cases hn : ((k : Int) + 1) % w = 0
    · have hx := (nl_iff (w := w) (k := k) (by omega)).2 hn
      have hd : ((k : Int) + 1) / w = (k : Int) / w + 1 := by
        have : (k : Int) + 1 = w * ((k : Int) / w + 1) := by rw [Int.mul_add]; omega
        rw [this, Int.mul_ediv_cancel_left _ (by omega)]
      rw [draws_nl hn, fold_app, fold_app, ih (by omega)]
      simp only [fold_one, pstep_chr hok]
      have hge : ¬ ((k + 1 : Nat) : Int) < w := by
        intro hlt
        have : (k : Int) / w = 0 := Int.ediv_eq_zero_of_lt (by omega) (by omega)
        rw [this, Int.mul_zero] at e1
        omega
      rw [pstep_nl ?_]
      · rw [if_neg hge, htk]
        have c1 : ((k + 1 : Nat) : Int) % w = 0 := by rw [Int.natCast_succ]; exact hn
        have c2 : ((k + 1 : Nat) : Int) / w = (k : Int) / w + 1 := by rw [Int.natCast_succ]; exact hd
        rw [c1, c2, hx, Int.sub_add_cancel]
      · intro ⟨h1, h2⟩
        apply h2
        rw [if_neg]
        · omega
        · intro hlt
          have : (k : Int) / w = 0 := Int.ediv_eq_zero_of_lt (by omega) hlt
          omega
    · have hx : ¬ (k : Int) % w = w - 1 := fun e => hn ((nl_iff (w := w) (k := k) (by omega)).1 e)
      have hm : ((k : Int) + 1) % w = (k : Int) % w + 1 := by
        rw [← Int.emod_add_emod, Int.emod_eq_of_lt (by omega) (by omega)]
      have hd : ((k : Int) + 1) / w = (k : Int) / w := by
        have h5 := Int.emod_add_mul_ediv ((k : Int) + 1) w
        rw [hm] at h5
        have : w * (((k : Int) + 1) / w) = w * ((k : Int) / w) := by omega
        exact Int.eq_of_mul_eq_mul_left (by omega) this
      rw [draws_no hn, fold_app, ih (by omega)]
      simp only [fold_one, pstep_chr hok]
      have c1 : ((k + 1 : Nat) : Int) % w = (k : Int) % w + 1 := by rw [Int.natCast_succ]; exact hm
      have c2 : ((k + 1 : Nat) : Int) / w = (k : Int) / w := by rw [Int.natCast_succ]; exact hd
      rw [c1, c2, htk]
      have hif : (if ((k + 1 : Nat) : Int) < w then (0 : Int) else w) = if (k : Int) < w then 0 else w := by
        by_cases hlt : (k : Int) < w
        · rw [if_pos hlt, if_pos]
          rcases Int.lt_or_le ((k + 1 : Nat) : Int) w with h6 | h6
          · exact h6
          · exfalso
            have : (k : Int) + 1 = w := by omega
            rw [this, Int.emod_self] at hn
            exact hn rfl
        · rw [if_neg hlt, if_neg (by omega)]
      rw [hif]
theorem parse_draw {w h : Int} {l : List UInt8} (hv : validF w h l = true) : parse (draws w l l.length) = ((w, h, l), 0) := by
  have hw := valid_iff.1 (validF_iff.1 hv).1.1
  have hl := (validF_iff.1 hv).1.2
  have h1 := fold_draws hv l.length (Nat.le_refl _)
  rw [hl, Int.mul_emod_right, Int.mul_ediv_cancel_left _ (by omega), List.take_length, if_neg ?_] at h1
  · refine parse_ok (k := (draws w l l.length).length) rfl ?_ (Int.lt_irrefl 0) hv
    rw [scan_take _ _ (Nat.le_refl _), List.take_length]
    exact h1
  · have : w * 1 ≤ w * h := Int.mul_le_mul_of_nonneg_left (by omega) (by omega)
    omega
theorem chr_value {c v : UInt8} (h : value c = some v) : chr v = c := by
  unfold value at h
  split at h
  · rename_i e; injection h with h; subst h; rw [e]; decide
  · split at h
    · rename_i e; injection h with h; subst h; rw [e]; decide
    · split at h
      · rename_i e
        injection h with h
        have h5 : c.toNat = 48 ∨ c.toNat = 49 ∨ c.toNat = 50 := by omega
        subst h
        rcases h5 with h5 | h5 | h5 <;> rw [show c = UInt8.ofNat _ from u8_eq h5] <;> decide
      · cases h
theorem draws_app (w : Int) (l r : List UInt8) : ∀ k, k ≤ l.length → draws w (l ++ r) k = draws w l k := by
  intro k
  induction k with
  | zero => intro _; rfl
  | succ k ih =>
    intro hk
    have e : (l ++ r).getD k 0 = l.getD k 0 := by simp [List.getD, List.getElem?_append_left (show k < l.length by omega)]
    by_cases hn : ((k : Int) + 1) % w = 0
    · rw [draws_nl hn, draws_nl hn, ih (by omega), e]
    · rw [draws_no hn, draws_no hn, ih (by omega), e]
/-- a row, begun and whole. -/
theorem draws_row {w : Int} {l : List UInt8} {m : Nat} (hw : 0 < w) (hm : (m : Int) % w = 0) : ∀ j : Nat, (j : Int) < w → m + j ≤ l.length → draws w l (m + j) = draws w l m ++ ((l.drop m).take j).map chr := by
  intro j
  induction j with
  | zero => intro _ _; simp
  | succ j ih =>
    intro hj hl
    have hn : ¬ (((m + j : Nat) : Int) + 1) % w = 0 := by
      rw [Int.natCast_add, show (m : Int) + (j : Int) + 1 = (m : Int) + ((j : Int) + 1) by omega, ← Int.emod_add_emod, hm, Int.zero_add, Int.emod_eq_of_lt (by omega) (by omega)]
      omega
    have e : (l.drop m).take (j + 1) = (l.drop m).take j ++ [l.getD (m + j) 0] := by
      rw [List.take_succ_eq_append_getElem (by simp; omega)]
      simp [List.getD, show m + j < l.length by omega]
    rw [show m + (j + 1) = (m + j) + 1 by omega, draws_no hn, ih (by omega) (by omega), e, List.map_append, List.append_assoc]
    rfl
theorem draws_full {w : Nat} {l : List UInt8} {m : Nat} (hw : 0 < w) (hm : (m : Int) % (w : Int) = 0) (hl : m + w ≤ l.length) : draws w l (m + w) = draws w l m ++ ((l.drop m).take w).map chr ++ [10] := by
  obtain ⟨j, rfl⟩ : ∃ j, w = j + 1 := ⟨w - 1, by omega⟩
  have hn : (((m + j : Nat) : Int) + 1) % ((j + 1 : Nat) : Int) = 0 := by
    rw [Int.natCast_add, show (m : Int) + (j : Int) + 1 = (m : Int) + ((j + 1 : Nat) : Int) by omega, Int.add_emod_right]; exact hm
  have e : (l.drop m).take (j + 1) = (l.drop m).take j ++ [l.getD (m + j) 0] := by
    rw [List.take_succ_eq_append_getElem (by simp; omega)]
    simp [List.getD, show m + j < l.length by omega]
  rw [show m + (j + 1) = (m + j) + 1 by omega, draws_nl hn, draws_row (by omega) hm j (by omega) (by omega), e, List.map_append, List.append_assoc, List.append_assoc, List.append_assoc, List.append_assoc]
  rfl
/-- what has been read is what has been drawn. -/
def Inv (t : List UInt8) (n W H : Int) (cs : List UInt8) : Prop := 0 ≤ n ∧ 0 ≤ H ∧ ((H = 0 ∧ W = 0 ∧ (cs.length : Int) = n ∧ t = cs.map chr) ∨ (0 < H ∧ W = 0) ∨
  (0 < H ∧ ∃ u m : Nat, 0 < u ∧ W = (u : Int) ∧ (m : Int) = (u : Int) * H ∧ (cs.length : Int) = (m : Int) + n ∧ t = draws u cs m ++ (cs.drop m).map chr))
theorem inv_step {t cs cs' : List UInt8} {n W H n' W' H' : Int} {c : UInt8} (hi : Inv t n W H cs) (hs : pstep (n, W, H, cs) c = some (n', W', H', cs')) : Inv (t ++ [c]) n' W' H' cs' := by
  obtain ⟨h0, h1, hi⟩ := hi
  unfold pstep at hs
  split at hs
  · rename_i hc
    have hc10 : c = 10 := u8_eq (n := 10) (by omega)
    split at hs
    · cases hs
    · rename_i hn
      simp only [Option.some.injEq, Prod.mk.injEq] at hs
      obtain ⟨rfl, rfl, rfl, rfl⟩ := hs
      simp only at hn
      refine ⟨by omega, by omega, ?_⟩
      rcases hi with ⟨rfl, rfl, hl, ht⟩ | ⟨hH, rfl⟩ | ⟨hH, u, m, hu, rfl, hm, hl, ht⟩
      · by_cases hz : n = 0
        · exact .inr (.inl ⟨by omega, hz⟩)
        · refine .inr (.inr ⟨by omega, cs.length, cs.length, by omega, hl.symm, by rw [Int.zero_add, Int.mul_one], by omega, ?_⟩)
          have hf := draws_full (w := cs.length) (l := cs) (m := 0) (by omega) (by simp) (by omega)
          rw [Nat.zero_add] at hf
          rw [hf, ht, hc10]
          simp [draws]
      · exact .inr (.inl ⟨by omega, by omega⟩)
      · have hn2 : n = (u : Int) := by omega
        refine .inr (.inr ⟨by omega, u, m + u, hu, hn2, by rw [Int.natCast_add, Int.mul_add, Int.mul_one, hm], by omega, ?_⟩)
        have hf := draws_full (w := u) (l := cs) (m := m) hu (by rw [hm]; exact Int.mul_emod_right _ _) (by omega)
        rw [hf, ht, hc10]
        have e1 : (cs.drop m).take u = cs.drop m := List.take_of_length_le (by simp; omega)
        have e2 : cs.drop (m + u) = [] := List.drop_of_length_le (by omega)
        rw [e1, e2]
        simp
  · split at hs
    · rename_i v hv
      simp only [Option.some.injEq, Prod.mk.injEq] at hs
      obtain ⟨rfl, rfl, rfl, rfl⟩ := hs
      have hcv := chr_value hv
      refine ⟨by omega, h1, ?_⟩
      rcases hi with ⟨hH, hW, hl, ht⟩ | hB | ⟨hH, u, m, hu, hW, hm, hl, ht⟩
      · exact .inl ⟨hH, hW, by simp; omega, by rw [ht, List.map_append]; simp [hcv]⟩
      · exact .inr (.inl hB)
      · refine .inr (.inr ⟨hH, u, m, hu, hW, hm, by simp; omega, ?_⟩)
        rw [draws_app _ _ _ _ (by omega), List.drop_append_of_le_length (by omega), List.map_append, ht]
        simp [hcv]
    · cases hs
theorem inv_scan {s : List UInt8} : ∀ k, k ≤ s.length → ∀ n W H cs, scan s k = some (n, W, H, cs) → Inv (s.take k) n W H cs := by
  intro k
  induction k with
  | zero =>
    intro _ n W H cs h
    simp only [scan, Option.some.injEq, Prod.mk.injEq] at h
    obtain ⟨rfl, rfl, rfl, rfl⟩ := h
    exact ⟨by omega, by omega, .inl ⟨rfl, rfl, rfl, rfl⟩⟩
  | succ k ih =>
    intro hk n W H cs h
    have e : s.take (k + 1) = s.take k ++ [s.getD k 0] := by
      rw [List.take_succ_eq_append_getElem (by omega)]; simp [List.getD, show k < s.length by omega]
    rw [e]
    cases hs : scan s k with
    | none => simp [scan, hs] at h
    | some st =>
      obtain ⟨n0, W0, H0, cs0⟩ := st
      rw [scan_succ hs] at h
      exact inv_step (ih (by omega) _ _ _ _ hs) h
/-- the text form of a floor that Parse returned is the string. -/
theorem draw_parse {s cs : List UInt8} {W H : Int} (h : parse s = ((W, H, cs), 0)) : validF W H cs = true ∧ draws W cs cs.length = s := by
  unfold parse at h
  cases hs : scan s s.length with
  | none => rw [hs] at h; simp at h
  | some st =>
    obtain ⟨n, W0, H0, cs0⟩ := st
    rw [hs] at h
    simp only at h
    split at h
    · simp at h
    · rename_i hn
      split at h
      · rename_i hv
        simp only [Prod.mk.injEq, and_true] at h
        obtain ⟨rfl, rfl, rfl⟩ := h
        refine ⟨hv, ?_⟩
        have hw := valid_iff.1 (validF_iff.1 hv).1.1
        obtain ⟨h0, h1, hi⟩ := inv_scan s.length (Nat.le_refl _) _ _ _ _ hs
        rw [List.take_length] at hi
        rcases hi with ⟨_, hW, _⟩ | ⟨_, hW⟩ | ⟨_, u, m, hu, hW, hm, hl, ht⟩
        · omega
        · omega
        · have : cs0.length = m := by omega
          rw [ht, hW, ← this]
          simp
      · simp at h
theorem parse_err {s : List UInt8} : (parse s).2 = 0 ∨ (parse s).2 = 11 ∨ (parse s).2 = 50 := by
  unfold parse
  split
  · exact .inr (.inl rfl)
  · split
    · exact .inr (.inl rfl)
    · split
      · exact .inl rfl
      · exact .inr (.inr rfl)
theorem draws_length {w : Int} {l : List UInt8} (hw : 0 < w) : ∀ k, ((draws w l k).length : Int) = (k : Int) + (k : Int) / w := by
  intro k
  induction k with
  | zero => simp [draws]
  | succ k ih =>
    have e1 := Int.emod_add_mul_ediv (k : Int) w
    have e2 := Int.emod_nonneg (k : Int) (show w ≠ 0 by omega)
    have e3 := Int.emod_lt_of_pos (k : Int) hw
    by_cases hn : ((k : Int) + 1) % w = 0
    · have hx := (nl_iff (w := w) (k := k) hw).2 hn
      have hd : ((k : Int) + 1) / w = (k : Int) / w + 1 := by
        have : (k : Int) + 1 = w * ((k : Int) / w + 1) := by rw [Int.mul_add]; omega
        rw [this, Int.mul_ediv_cancel_left _ (by omega)]
      rw [draws_nl hn, Int.natCast_succ, hd]
      simp only [List.length_append, List.length_cons, List.length_nil]
      omega
    · have hx : ¬ (k : Int) % w = w - 1 := fun e => hn ((nl_iff (w := w) (k := k) hw).1 e)
      have hm : ((k : Int) + 1) % w = (k : Int) % w + 1 := by
        rw [← Int.emod_add_emod, Int.emod_eq_of_lt (by omega) (by omega)]
      have hd : ((k : Int) + 1) / w = (k : Int) / w := by
        have h5 := Int.emod_add_mul_ediv ((k : Int) + 1) w
        rw [hm] at h5
        exact Int.eq_of_mul_eq_mul_left (by omega) (show w * (((k : Int) + 1) / w) = w * ((k : Int) / w) by omega)
      rw [draws_no hn, Int.natCast_succ, hd]
      simp only [List.length_append, List.length_cons, List.length_nil]
      omega
theorem draws_all {w h : Int} {l : List UInt8} (hv : validF w h l = true) : ((draws w l l.length).length : Int) = (w + 1) * h := by
  have hw := valid_iff.1 (validF_iff.1 hv).1.1
  rw [draws_length (by omega), (validF_iff.1 hv).1.2, Int.mul_ediv_cancel_left _ (by omega), Int.add_mul, Int.one_mul]
end Fl
end Go.Proofs.Yteibcphdbkgcgaa
