/- Plain laws: middles of places and squares of ways. No program is in sight here. -/
import Derived.Test.YteooegliepbcnaaGreatMath5
namespace Go.Proofs.YteooegliepbcnaaGreat
set_option linter.unusedVariables false
set_option linter.unusedSimpArgs false
set_option maxRecDepth 10000

def mdX (p : P2) : Int := (p.x.lo + p.x.hi) / 2
def mdY (p : P2) : Int := (p.y.lo + p.y.hi) / 2
def sqM (a b c d : Int) : Int := (a - c) * (a - c) + (b - d) * (b - d)
theorem plB_t {p : P2} (h : plB p = true) : -1000000 ≤ p.x.lo ∧ p.x.lo ≤ p.x.hi ∧ p.x.hi ≤ 1000000 ∧ -1000000 ≤ p.y.lo ∧ p.y.lo ≤ p.y.hi ∧ p.y.hi ≤ 1000000 := by
  unfold plB at h
  simp only [Bool.and_eq_true] at h
  have := coB_t h.1
  have := coB_t h.2
  omega
theorem md_bd {p : P2} (h : plB p = true) : -1000000 ≤ mdX p ∧ mdX p ≤ 1000000 ∧ -1000000 ≤ mdY p ∧ mdY p ≤ 1000000 := by
  have := plB_t h
  unfold mdX mdY; omega
theorem sq_bd {x : Int} (h0 : -2000000 ≤ x) (h1 : x ≤ 2000000) : 0 ≤ x * x ∧ x * x ≤ 4000000000000 := by
  have h := mul_abs (a := x) (b := x) (A := 2000000) (B := 2000000) h0 h1 h0 h1
  have k : 0 ≤ x * x := by
    by_cases g : 0 ≤ x
    · exact Int.mul_nonneg g g
    · have := Int.mul_nonneg (show 0 ≤ -x by omega) (show 0 ≤ -x by omega)
      rw [Int.neg_mul_neg] at this; exact this
  omega
theorem sqM_comm (a b c d : Int) : sqM a b c d = sqM c d a b := by
  have h : ∀ x y : Int, (x - y) * (x - y) = (y - x) * (y - x) := fun x y => by rw [← Int.neg_mul_neg (x - y) (x - y), Int.neg_sub]
  unfold sqM; rw [h a c, h b d]
/-- A speed, or none. -/
def spM (b1 b2 : Bool) (s : Int) : Int := if (b1 && b2) = true then s else 0
def spC (b1 b2 : Bool) : Int := if (b1 && b2) = true then 0 else 4
theorem shB_pl {az sl h : Int} {v : V3} (k : shB az sl h v = true) : plB (spP h (paV az sl v)) = true := by
  unfold shB at k
  simp only [Bool.and_eq_true] at k
  exact k.2.2

end Go.Proofs.YteooegliepbcnaaGreat
