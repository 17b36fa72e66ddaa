/- Plain laws on integers: the calendar, the sun and the sky. No program is in sight here. -/
import Derived.Test.YteooegliepbcnaaGreatMath
namespace Go.Proofs.YteooegliepbcnaaGreat
set_option linter.unusedVariables false
set_option linter.unusedSimpArgs false
set_option maxRecDepth 10000

/-! The calendar and the sun. -/
def diM (y m : Int) : Int := if m = 4 ∨ m = 6 ∨ m = 9 ∨ m = 11 then 30 else if m = 2 then (if y % 4 = 0 then 29 else 28) else 31
def cuM (y : Int) : Nat → Int
  | 0 => 0
  | k + 1 => cuM y k + diM y (k + 1)
theorem diM_bd (y m : Int) : 28 ≤ diM y m ∧ diM y m ≤ 31 := by unfold diM; split <;> (try split) <;> (try split) <;> omega
theorem cuM_bd (y : Int) : ∀ k : Nat, 0 ≤ cuM y k ∧ cuM y k ≤ 31 * k
  | 0 => by simp [cuM]
  | k + 1 => by have := cuM_bd y k; have := diM_bd y (k + 1); unfold cuM; omega
/-- The number of a date. -/
def dnM (y m d : Int) : Int := -36159 + 365 * (y - 1901) + (y - 1901) / 4 + d - 1 + cuM y (m - 1).toNat
theorem dnM_first : dnM 1901 1 1 = -36159 := by decide
theorem dnM_last : dnM 2099 12 31 = 36524 := by decide
/-- Is a number that of a date? -/
def dayB (n : Int) : Bool := inB n (-36159) 36524
def mlM (n : Int) : Int := plM (1009656 + n * 354833064 / 100000)
def anM (n : Int) : Int := plM (1287101 + n * 354816108 / 100000)
def slM (n : Int) : Int := plM (mlM n + neM (6894 * nsM (anM n) + 72 * nsM (2 * anM n)) 1000000000)
theorem mlM_bd (n : Int) : 0 ≤ mlM n ∧ mlM n < 1296000 := plM_bd _
theorem anM_bd (n : Int) : 0 ≤ anM n ∧ anM n < 1296000 := plM_bd _
theorem slM_bd (n : Int) : 0 ≤ slM n ∧ slM n < 1296000 := plM_bd _
/-- The arcs of the sines of an interval, and a code. -/
def asI (a b : Int) : Iv := if ivB a b = true then (if a > 1000000 ∨ b < -1000000 then ⟨0, 0⟩ else ⟨aL (max a (-1000000)), aH (min b 1000000)⟩) else ⟨0, 0⟩
def asC (a b : Int) : Int := if ivB a b = true then (if a > 1000000 ∨ b < -1000000 then 4 else 0) else 1
theorem asI_bd (a b : Int) : -324000 ≤ (asI a b).lo ∧ (asI a b).lo ≤ 324000 ∧ -324000 ≤ (asI a b).hi ∧ (asI a b).hi ≤ 324000 := by
  have h1 := aL_bd (max a (-1000000))
  have h2 := aH_bd (min b 1000000)
  unfold asI
  split
  · split <;> dsimp only <;> omega
  · dsimp only; omega
def siI (a : Int) : Iv := ⟨sL a, sH a⟩
/-- The declination of a day. -/
def dpI (n : Int) : Iv := muI (siI 84380) (siI (slM n))
def deI (n : Int) : Iv := ⟨(asI (dpI n).lo (dpI n).hi).lo - 60, (asI (dpI n).lo (dpI n).hi).hi + 60⟩
theorem dpI_bd (n : Int) : -1210005 ≤ (dpI n).lo ∧ (dpI n).lo ≤ (dpI n).hi ∧ (dpI n).hi ≤ 1210005 := by
  have h1 := s_bd 84380
  have h2 := s_bd (slM n)
  have := muI_bd (a := sL 84380) (b := sH 84380) (c := sL (slM n)) (d := sH (slM n)) 1100001 1100001 (by omega) (by omega) (by omega) (by omega) (by omega) (by omega) (by omega) (by omega)
  unfold dpI siI; omega
theorem deI_bd (n : Int) : -324060 ≤ (deI n).lo ∧ (deI n).lo ≤ 324060 ∧ -324060 ≤ (deI n).hi ∧ (deI n).hi ≤ 324060 := by
  have := asI_bd (dpI n).lo (dpI n).hi
  unfold deI; dsimp only; omega

structure V3 where
  x : Iv
  y : Iv
  z : Iv
/-- The direction to the sun at a latitude, for a declination from lo to hi, at a minute. -/
def flI (lo hi m : Int) : Iv := muI (srI (lo + 324000) (hi + 324000)) (siI ((m - 720) * 900 + 324000))
def suV (lat lo hi m : Int) : V3 :=
  ⟨miI ⟨0, 0⟩ (muI (srI (lo + 324000) (hi + 324000)) (siI ((m - 720) * 900))),
   miI (muI (srI lo hi) (siI (lat + 324000))) (muI (flI lo hi m) (siI lat)),
   plI (muI (srI lo hi) (siI lat)) (muI (flI lo hi m) (siI (lat + 324000)))⟩
theorem muI_bd' (x y : Iv) (A B : Int) (a0 : -A ≤ x.lo) (a1 : x.lo ≤ x.hi) (b1 : x.hi ≤ A) (c0 : -B ≤ y.lo) (c1 : y.lo ≤ y.hi) (d1 : y.hi ≤ B) :
    -(A * B / 1000000) - 1 ≤ (muI x y).lo ∧ (muI x y).lo ≤ (muI x y).hi ∧ (muI x y).hi ≤ A * B / 1000000 + 1 :=
  muI_bd (a := x.lo) (b := x.hi) (c := y.lo) (d := y.hi) A B a0 (by omega) (by omega) b1 c0 (by omega) (by omega) d1
theorem siI_bd (a : Int) : -1100001 ≤ (siI a).lo ∧ (siI a).lo ≤ (siI a).hi ∧ (siI a).hi ≤ 1100001 := s_bd a
theorem srs_bd (lo hi a : Int) : -1210005 ≤ (muI (srI lo hi) (siI a)).lo ∧ (muI (srI lo hi) (siI a)).lo ≤ (muI (srI lo hi) (siI a)).hi ∧ (muI (srI lo hi) (siI a)).hi ≤ 1210005 := by
  have h1 := srI_bd lo hi
  have h2 := siI_bd a
  have := muI_bd' (srI lo hi) (siI a) 1100001 1100001 h1.1 h1.2.1 h1.2.2 h2.1 h2.2.1 h2.2.2
  omega
theorem flI_bd (lo hi m : Int) : -1210005 ≤ (flI lo hi m).lo ∧ (flI lo hi m).lo ≤ (flI lo hi m).hi ∧ (flI lo hi m).hi ≤ 1210005 := srs_bd _ _ _
theorem fls_bd (lo hi m a : Int) : -1331009 ≤ (muI (flI lo hi m) (siI a)).lo ∧ (muI (flI lo hi m) (siI a)).lo ≤ (muI (flI lo hi m) (siI a)).hi ∧ (muI (flI lo hi m) (siI a)).hi ≤ 1331009 := by
  have h1 := flI_bd lo hi m
  have h2 := siI_bd a
  have := muI_bd' (flI lo hi m) (siI a) 1210005 1100001 h1.1 h1.2.1 h1.2.2 h2.1 h2.2.1 h2.2.2
  omega
theorem suV_bd (lat lo hi m : Int) : -3000000 ≤ (suV lat lo hi m).x.lo ∧ (suV lat lo hi m).x.lo ≤ (suV lat lo hi m).x.hi ∧ (suV lat lo hi m).x.hi ≤ 3000000 ∧
    -3000000 ≤ (suV lat lo hi m).y.lo ∧ (suV lat lo hi m).y.lo ≤ (suV lat lo hi m).y.hi ∧ (suV lat lo hi m).y.hi ≤ 3000000 ∧
    -3000000 ≤ (suV lat lo hi m).z.lo ∧ (suV lat lo hi m).z.lo ≤ (suV lat lo hi m).z.hi ∧ (suV lat lo hi m).z.hi ≤ 3000000 := by
  have h1 := srs_bd (lo + 324000) (hi + 324000) ((m - 720) * 900)
  have h2 := srs_bd lo hi (lat + 324000)
  have h3 := fls_bd lo hi m lat
  have h4 := srs_bd lo hi lat
  have h5 := fls_bd lo hi m (lat + 324000)
  unfold suV miI plI; dsimp only; omega

theorem paB_eq (a b : Int) : paB a b = (ivB a b && (inB a (-10000000) 10000000 && inB b (-10000000) 10000000)) := by
  unfold paB ivB inB
  rw [Bool.eq_iff_iff]
  simp only [Bool.and_eq_true, decide_eq_true_eq]
  omega
theorem paB_eq' (a b : Int) : paB a b = (inB a (-10000000) b && inB b (-10000000) 10000000) := by
  unfold paB inB
  rw [Bool.eq_iff_iff]
  simp only [Bool.and_eq_true, decide_eq_true_eq]
  omega

end Go.Proofs.YteooegliepbcnaaGreat
