/- The chapter's example, plainly. -/
import Derived.Test.YteibcphdbkgcgaaDe
namespace Go.Proofs.Yteibcphdbkgcgaa
set_option linter.unusedSimpArgs false
set_option linter.unusedVariables false
namespace Cf
open Go
def exs : List UInt8 := [1, 1, 0, 2, 2, 0]
def exl : List UInt8 := [1, 1, 255, 1, 1, 1, 1, 255, 1, 1, 2, 2, 255, 2, 2, 2, 2, 255, 2, 2]
def exo (k : Nat) : UInt8 := if k < 2 then 1 else 2
def ext (k : Int) : T := ⟨[10 * k], [5 + 10 * k], [4 + 10 * k], 1, 1, 2, 2, 8⟩
def ex : C := ⟨5, 4, exl, exs, [ext 0, ext 1], 0⟩
def six : List UInt8 := [1, 255, 1, 1, 1, 2]
def one (t : Int) : T := ⟨[0], [2], [t], 1, 8, 2, 16, 64⟩
def tail : List UInt8 := [6, 1, 1, 0, 2, 2, 0, 2, 1, 0, 1, 5, 1, 4, 1, 1, 2, 2, 8, 1, 10, 1, 15, 1, 14, 1, 1, 2, 2, 8]
theorem exo_val {k : Nat} (h : k < 4) : 1 + (k : Int) / 2 = ((exo k).toNat : Int) := by
  rcases (by omega : k = 0 ∨ k = 1 ∨ k = 2 ∨ k = 3) with rfl | rfl | rfl | rfl <;> rfl
theorem exl_step {k : Nat} (h : k < 4) : exl.take (5 * k) ++ [exo k, exo k, 255, exo k, exo k] = exl.take (5 * (k + 1)) := by
  rcases (by omega : k = 0 ∨ k = 1 ∨ k = 2 ∨ k = 3) with rfl | rfl | rfl | rfl <;> rfl
theorem ext_step {ts : List E.Tm} {k : Nat} {m : E.Tm} (h : ts.map (·.q) = ex.ts.take k) (hk : k < 2) (hm : m.q = ext k) : (ts ++ [m]).map (·.q) = ex.ts.take (k + 1) := by
  rw [List.map_append, h, List.map_cons, hm]
  rcases (by omega : k = 0 ∨ k = 1) with rfl | rfl <;> rfl
theorem fit_one {t : Int} (h : i64 t) : (one t).fit := ⟨by simp [one], by simp [one], by simp [one], (by intro n hn; simp [one] at hn; omega), (by intro n hn; simp [one] at hn; omega), (by intro n hn; simp [one] at hn; subst hn; exact h), by simp [one, i64], by simp [one, i64], by simp [one, i64], by simp [one, i64], by simp [one, i64]⟩
theorem ex_fit : ex.fit := ⟨by simp [ex, i64], by simp [ex, i64], by simp [ex, exl], by simp [ex, exs], by simp [ex], (by
  intro t ht
  have hc : ∀ k : Int, k = 0 ∨ k = 1 → (ext k).fit := fun k hk => ⟨by simp [ext], by simp [ext], by simp [ext], (by intro n hn; simp [ext] at hn; omega), (by intro n hn; simp [ext] at hn; omega), (by intro n hn; simp [ext] at hn; omega), by simp [ext, i64], by simp [ext, i64], by simp [ext, i64], by simp [ext, i64], by simp [ext, i64]⟩
  simp only [ex, List.mem_cons, List.not_mem_nil, or_false] at ht
  rcases ht with rfl | rfl
  · exact hc 0 (.inl rfl)
  · exact hc 1 (.inr rfl)), by simp [ex]⟩
theorem ex_check : check ex = 0 := by decide +kernel
theorem ex_ten : tenantsR ex = ([0, 1], 0) := by decide +kernel
theorem ex_pres : presence ex 1 = (true, 0) := by decide +kernel
theorem ex_only : (onlyR ex 1).2 = 0 := by decide +kernel
theorem ex_only_ne : decide (ex = (onlyR ex 1).1) = false := by decide +kernel
theorem ex_ten2 : tenantsR (onlyR ex 1).1 = ([1], 0) := by decide +kernel
theorem ex_enc : (encR ex).2 = 0 := by decide +kernel
theorem ex_enc_len : (encR ex).1.length = 60 := by decide +kernel
theorem ex_tail : ((encR ex).1.drop 22).take 30 = tail := by decide +kernel
theorem ex_dec : dec (encR ex).1 = (ex, 0) := by decide +kernel
theorem one3 : checkTeam 3 2 six 0 (one 3) = 0 := by decide +kernel
theorem one2 : checkTeam 3 2 six 0 (one 2) = 70 := by decide +kernel
theorem one_spots : spots (one 3) = [0, 2, 3] := by decide +kernel
theorem one_absent : absent (one 3) = false := by decide +kernel
theorem z_absent : absent T.z = true := by decide +kernel
end Cf
namespace E
open Go Go.RowKit
section
variable {P : Program} {n : Nat} {w0 : World} {F : Nat → Prop} {K : Kt} {l : Env} {H : List HP} {o : Oper}
theorem CW.cap {c' : Code} (i : Nat) {Et sz m c : Nat} {A : Option Addr} {xs : List Value} {H' : List HP} (hi : E.sel H i = some (HP.row Et sz A m c xs, H')) (k : m ≤ c → CW P n w0 F c' K l H) : CW P n w0 F c' K l H := fun a w ha hw => k (hw.rowcap hi) a w ha hw
theorem OW.conv {ops : Array Oper} {rest : List Oper} {H' : List HP} (h : ∀ w U, Chunks w U H → Chunks w U H') (k : OW P n w0 F ops K rest l H') : OW P n w0 F ops K rest l H := fun a w ha hw => k a w ha { hw with chunks := h w _ hw.chunks }
theorem OW.gather {ops : Array Oper} {rest : List Oper} {H1 ps r : List HP} (is : List Nat) (m : Nat) (hs : E.sels H is = some H1) (h2 : spl H1 m = some (ps, r)) (k : OW P n w0 F ops K rest l (HP.bag ps :: r)) : OW P n w0 F ops K rest l H :=
  OW.sels is hs (OW.conv (fun w U h => by rw [spl_eq h2] at h; exact h.gather) k)
end
end E
end Go.Proofs.Yteibcphdbkgcgaa
