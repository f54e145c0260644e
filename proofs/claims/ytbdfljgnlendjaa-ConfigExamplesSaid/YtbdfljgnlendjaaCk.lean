/- The chapter's further examples, plainly. No program in sight. -/
import Derived.Test.YtbdfljgnlendjaaCj
namespace Go.Proofs.Ytbdfljgnlendjaa
namespace Cf
open Go
def oneX : T := ⟨[0], [2], [3], 9, 8, 2, 16, 64⟩
def oneY : T := ⟨[0], [], [3], 1, 8, 2, 16, 64⟩
def oneL : T := ⟨[], [], [], 1, 0, 0, 0, 0⟩
theorem x_1 : checkTeam 3 2 six 0 (one 1) = 70 := by decide +kernel
theorem x_5 : checkTeam 3 2 six 0 (one 5) = 70 := by decide +kernel
theorem x_6 : checkTeam 3 2 six 0 (one 6) = 70 := by decide +kernel
theorem x_m : checkTeam 3 2 six 0 (one (-1)) = 70 := by decide +kernel
theorem x_X : checkTeam 3 2 six 0 oneX = 70 := by decide +kernel
theorem x_Y : checkTeam 3 2 six 0 oneY = 70 := by decide +kernel
theorem x_t1 : checkTeam 3 2 six 1 (one 3) = 70 := by decide +kernel
theorem x_t3 : checkTeam 3 2 six 3 (one 3) = 2 := by decide +kernel
theorem x_f : checkTeam 0 0 [] 3 oneX = 50 := by decide +kernel
theorem x_z : checkTeam 3 2 six 0 T.z = 0 := by decide +kernel
theorem x_L : checkTeam 3 2 six 0 oneL = 70 := by decide +kernel
def exC : C := ⟨5, 4, exl.set 1 3, exs, ex.ts, 0⟩
def exD : C := ⟨5, 4, exl, exs.set 2 3, ex.ts, 0⟩
def exF : C := ⟨5, 4, exl, exs, ex.ts.set 1 T.z, 0⟩
def exG : C := ⟨5, 4, exl, exs, ex.ts, 4611686018427387905⟩
theorem c_C : check exC = 70 := by decide +kernel
theorem c_D : check exD = 70 := by decide +kernel
theorem c_F : check exF = 70 := by decide +kernel
theorem c_G : check exG = 2 := by decide +kernel
theorem c_z : check zero = 50 := by decide +kernel
theorem p_2 : (presence ex 2).2 = 2 := by decide +kernel
theorem o_2 : (onlyR ex 2).2 = 2 := by decide +kernel
theorem o_1 : (onlyR ex 1).2 = 0 := by decide +kernel
theorem o_len : (onlyR ex 1).1.l.length = 20 := by decide +kernel
theorem o_t5 : (onlyR ex 1).1.l.take 5 = [0, 0, 255, 0, 0] := by decide +kernel
theorem o_m5 : ((onlyR ex 1).1.l.drop 10).take 5 = [2, 2, 255, 2, 2] := by decide +kernel
theorem o_s : (onlyR ex 1).1.s = [0, 0, 0, 2, 2, 0] := by decide +kernel
theorem d_59 : (dec ((encR ex).1.take 59)).2 = 10 := by decide +kernel
theorem d_61 : (dec ((encR ex).1 ++ [0])).2 = 11 := by decide +kernel
theorem d_0 : (dec []).2 = 10 := by decide +kernel
theorem d_257 : (dec (List.replicate 257 0)).2 = 4 := by decide +kernel
theorem fit_X : oneX.fit := ⟨by simp [oneX], by simp [oneX], by simp [oneX], (by intro n hn; simp [oneX] at hn; omega), (by intro n hn; simp [oneX] at hn; omega), (by intro n hn; simp [oneX] at hn; omega), by simp [oneX, i64], by simp [oneX, i64], by simp [oneX, i64], by simp [oneX, i64], by simp [oneX, i64]⟩
theorem fit_Y : oneY.fit := ⟨by simp [oneY], by simp [oneY], by simp [oneY], (by intro n hn; simp [oneY] at hn; omega), (by intro n hn; simp [oneY] at hn), (by intro n hn; simp [oneY] at hn; omega), by simp [oneY, i64], by simp [oneY, i64], by simp [oneY, i64], by simp [oneY, i64], by simp [oneY, i64]⟩
theorem fit_L : oneL.fit := ⟨by simp [oneL], by simp [oneL], by simp [oneL], (by intro n hn; simp [oneL] at hn), (by intro n hn; simp [oneL] at hn), (by intro n hn; simp [oneL] at hn), by simp [oneL, i64], by simp [oneL, i64], by simp [oneL, i64], by simp [oneL, i64], by simp [oneL, i64]⟩
theorem fit_C : exC.fit := ⟨ex_fit.a, ex_fit.b, by simp [exC, exl], ex_fit.s, ex_fit.t, ex_fit.m, ex_fit.st⟩
theorem fit_D : exD.fit := ⟨ex_fit.a, ex_fit.b, ex_fit.l, by simp [exD, exs], ex_fit.t, ex_fit.m, ex_fit.st⟩
theorem fit_F : exF.fit := ⟨ex_fit.a, ex_fit.b, ex_fit.l, ex_fit.s, by simp [exF, ex], (fun t ht => by
  rcases List.mem_or_eq_of_mem_set ht with h | rfl
  · exact ex_fit.m t h
  · exact T.z_fit), ex_fit.st⟩
theorem fit_G : exG.fit := ⟨ex_fit.a, ex_fit.b, ex_fit.l, ex_fit.s, ex_fit.t, ex_fit.m, by simp [exG]⟩
end Cf
end Go.Proofs.Ytbdfljgnlendjaa
