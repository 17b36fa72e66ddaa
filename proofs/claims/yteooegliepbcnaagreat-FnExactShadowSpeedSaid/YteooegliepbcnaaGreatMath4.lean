/- Plain laws on integers: quotients of intervals, places of shadows. No program is in sight here. -/
import Derived.Test.YteooegliepbcnaaGreatMath3
namespace Go.Proofs.YteooegliepbcnaaGreat
set_option linter.unusedVariables false
set_option linter.unusedSimpArgs false
set_option maxRecDepth 10000

theorem ceM_eq (a b : Int) : ceM a b = -((-a) / b) := rfl
theorem ceM_abs {a A b : Int} (hb : 0 < b) (h0 : -A ≤ a) (h1 : a ≤ A) : -A ≤ ceM a b ∧ ceM a b ≤ A := by
  have := div_abs (a := -a) (A := A) b hb (by omega) (by omega)
  unfold ceM; omega
theorem div_le_ceM {a b : Int} (hb : 0 < b) : a / b ≤ ceM a b := by
  unfold ceM
  have h1 := Int.mul_ediv_add_emod a b
  have h2 := Int.mul_ediv_add_emod (-a) b
  have h3 := Int.emod_nonneg a (show b ≠ 0 by omega)
  have h4 := Int.emod_nonneg (-a) (show b ≠ 0 by omega)
  have h5 : b * (a / b) + b * (-a / b) ≤ 0 := by omega
  rw [← Int.mul_add] at h5
  by_cases h : a / b + -a / b ≤ 0
  · omega
  · have := Int.mul_pos hb (show 0 < a / b + -a / b by omega)
    omega
/-- One quotient; the quotient of two intervals. -/
def dqI (x y : Int) : Iv := ⟨x * 1000000 / y, ceM (x * 1000000) y⟩
def diI (a b : Iv) : Iv :=
  ⟨mn4 (dqI a.lo b.lo).lo (dqI a.lo b.hi).lo (dqI a.hi b.lo).lo (dqI a.hi b.hi).lo, mx4 (dqI a.lo b.lo).hi (dqI a.lo b.hi).hi (dqI a.hi b.lo).hi (dqI a.hi b.hi).hi⟩
theorem dqI_bd {x y : Int} (h0 : -20000000 ≤ x) (h1 : x ≤ 20000000) (hy : 0 < y) : -20000000000000 ≤ (dqI x y).lo ∧ (dqI x y).lo ≤ (dqI x y).hi ∧ (dqI x y).hi ≤ 20000000000000 := by
  have a := div_abs (a := x * 1000000) (A := 20000000000000) y hy (by omega) (by omega)
  have b := ceM_abs (a := x * 1000000) (A := 20000000000000) hy (by omega) (by omega)
  have c := div_le_ceM (a := x * 1000000) hy
  unfold dqI; dsimp only; omega
theorem diI_bd {a b : Iv} (h0 : -20000000 ≤ a.lo) (h1 : a.lo ≤ 20000000) (h2 : -20000000 ≤ a.hi) (h3 : a.hi ≤ 20000000) (k0 : 0 < b.lo) (k1 : 0 < b.hi) :
    -20000000000000 ≤ (diI a b).lo ∧ (diI a b).lo ≤ (diI a b).hi ∧ (diI a b).hi ≤ 20000000000000 := by
  have p := dqI_bd h0 h1 k0
  have q := dqI_bd h0 h1 k1
  have r := dqI_bd h2 h3 k0
  have s := dqI_bd h2 h3 k1
  unfold diI mn4 mx4; dsimp only; omega
/-- The hull as the program takes it, quotient by quotient. -/
theorem diI_hull (a b : Iv) : huI (huI (huI (huI (dqI a.lo b.lo) (dqI a.lo b.lo)) (dqI a.lo b.hi)) (dqI a.hi b.lo)) (dqI a.hi b.hi) = diI a b := by
  unfold huI diI mn4 mx4; simp
/-- An interval, or none. -/
def toM (q : Iv) : R3 := if ivB q.lo q.hi = true then ⟨q.lo, q.hi, 0⟩ else ⟨0, 0, 3⟩
theorem toM_yes {q : Iv} (h : ivB q.lo q.hi = true) : toM q = ⟨q.lo, q.hi, 0⟩ := by unfold toM; rw [if_pos h]
theorem toM_no {q : Iv} (h : ivB q.lo q.hi = false) : toM q = ⟨0, 0, 3⟩ := by unfold toM; rw [if_neg (by rw [h]; simp)]
/-- The shadow's coordinate; is an interval a coordinate? -/
def faI (h : Int) (q : Iv) : Iv := ⟨(-h * q.hi) / 1000000, ceM (-h * q.lo) 1000000⟩
def coB (a b : Int) : Bool := decide (-1000000 ≤ a ∧ a ≤ b ∧ b ≤ 1000000)
theorem coB_eq (a b : Int) : coB a b = (inB a (-1000000) b && inB b (-1000000) 1000000) := by
  unfold coB inB
  rw [Bool.eq_iff_iff]
  simp only [Bool.and_eq_true, decide_eq_true_eq]
  omega
theorem coB_eq' (a b : Int) : coB a b = (inB a (-1000000) 1000000 && inB b (-1000000) 1000000 && decide (a ≤ b)) := by
  unfold coB inB
  rw [Bool.eq_iff_iff]
  simp only [Bool.and_eq_true, decide_eq_true_eq]
  omega
theorem coB_t {a b : Int} (h : coB a b = true) : -1000000 ≤ a ∧ a ≤ b ∧ b ≤ 1000000 := by unfold coB at h; exact of_decide_eq_true h
/-- Two coordinates. -/
structure P2 where
  x : Iv
  y : Iv
def plB (p : P2) : Bool := coB p.x.lo p.x.hi && coB p.y.lo p.y.hi
theorem faI_bd {h : Int} {q : Iv} (h0 : 1 ≤ h) (h1 : h ≤ 10000) (k0 : -20000000000000 ≤ q.lo) (k1 : q.lo ≤ q.hi) (k2 : q.hi ≤ 20000000000000) :
    -200000000000000000 ≤ -h * q.hi ∧ -h * q.hi ≤ 200000000000000000 ∧ -200000000000000000 ≤ -h * q.lo ∧ -h * q.lo ≤ 200000000000000000 := by
  have a := mul_abs (a := -h) (b := q.hi) (A := 10000) (B := 20000000000000) (by omega) (by omega) (by omega) (by omega)
  have b := mul_abs (a := -h) (b := q.lo) (A := 10000) (B := 20000000000000) (by omega) (by omega) (by omega) (by omega)
  omega
/-- A quotient that is no interval gives no coordinate. -/
theorem faI_no {h : Int} {q : Iv} (h0 : 1 ≤ h) (k : q.lo ≤ q.hi) (hq : ivB q.lo q.hi = false) : coB (faI h q).lo (faI h q).hi = false := by
  cases hc : coB (faI h q).lo (faI h q).hi with
  | false => rfl
  | true =>
    exfalso
    obtain ⟨c1, c2, c3⟩ := coB_t hc
    unfold faI ceM at c1 c3
    dsimp only at c1 c3
    have hq' : q.lo < -1000000000000 ∨ 1000000000000 < q.hi := by
      by_cases a : -1000000000000 ≤ q.lo
      · by_cases b : q.hi ≤ 1000000000000
        · rw [ivB_t a k b] at hq; cases hq
        · right; omega
      · left; omega
    rcases hq' with a | a
    · have h2 := Int.mul_le_mul_of_nonneg_left (show (1000000000001 : Int) ≤ -q.lo by omega) (show 0 ≤ h by omega)
      have h3 : -h * q.lo = h * -q.lo := by rw [Int.neg_mul, Int.mul_neg]
      rw [h3] at c3
      have h4 : 1000000000001 ≤ h * 1000000000001 := by omega
      omega
    · have h2 := Int.mul_le_mul_of_nonneg_left (show (1000000000001 : Int) ≤ q.hi by omega) (show 0 ≤ h by omega)
      have h3 : -h * q.hi = -(h * q.hi) := Int.neg_mul _ _
      rw [h3] at c1
      have h4 : 1000000000001 ≤ h * 1000000000001 := by omega
      omega
/-- The parts of a direction at a wall; the place of its shadow; is there one? -/
def paV (az sl : Int) (v : V3) : V3 := ⟨doV v (toV (az - 324000) 0), doV v (toV az (sl + 324000)), doV v (toV az sl)⟩
def spP (h : Int) (p : V3) : P2 := ⟨faI h (diI p.x p.z), faI h (diI p.y p.z)⟩
def shB (az sl h : Int) (v : V3) : Bool := decide (0 < v.z.lo) && (decide (0 < (paV az sl v).z.lo) && plB (spP h (paV az sl v)))
theorem doV_bd {v u : V3} (a0 : -3000000 ≤ v.x.lo) (a1 : v.x.lo ≤ v.x.hi) (a2 : v.x.hi ≤ 3000000) (b0 : -3000000 ≤ v.y.lo) (b1 : v.y.lo ≤ v.y.hi) (b2 : v.y.hi ≤ 3000000) (c0 : -3000000 ≤ v.z.lo) (c1 : v.z.lo ≤ v.z.hi) (c2 : v.z.hi ≤ 3000000)
    (d0 : -1210005 ≤ u.x.lo) (d1 : u.x.lo ≤ u.x.hi) (d2 : u.x.hi ≤ 1210005) (e0 : -1210005 ≤ u.y.lo) (e1 : u.y.lo ≤ u.y.hi) (e2 : u.y.hi ≤ 1210005) (f0 : -1210005 ≤ u.z.lo) (f1 : u.z.lo ≤ u.z.hi) (f2 : u.z.hi ≤ 1210005) :
    -20000000 ≤ (doV v u).lo ∧ (doV v u).lo ≤ (doV v u).hi ∧ (doV v u).hi ≤ 20000000 := by
  have p := muI_bd' v.x u.x 3000000 1210005 a0 a1 a2 d0 d1 d2
  have q := muI_bd' v.y u.y 3000000 1210005 b0 b1 b2 e0 e1 e2
  have r := muI_bd' v.z u.z 3000000 1210005 c0 c1 c2 f0 f1 f2
  unfold doV plI; dsimp only; omega
theorem paV_bd (az sl lat lo hi m : Int) : -20000000 ≤ (paV az sl (suV lat lo hi m)).x.lo ∧ (paV az sl (suV lat lo hi m)).x.lo ≤ (paV az sl (suV lat lo hi m)).x.hi ∧ (paV az sl (suV lat lo hi m)).x.hi ≤ 20000000 ∧
    -20000000 ≤ (paV az sl (suV lat lo hi m)).y.lo ∧ (paV az sl (suV lat lo hi m)).y.lo ≤ (paV az sl (suV lat lo hi m)).y.hi ∧ (paV az sl (suV lat lo hi m)).y.hi ≤ 20000000 ∧
    -20000000 ≤ (paV az sl (suV lat lo hi m)).z.lo ∧ (paV az sl (suV lat lo hi m)).z.lo ≤ (paV az sl (suV lat lo hi m)).z.hi ∧ (paV az sl (suV lat lo hi m)).z.hi ≤ 20000000 := by
  obtain ⟨a1, a2, a3, a4, a5, a6, a7, a8, a9⟩ := suV_bd lat lo hi m
  have key : ∀ a b, -20000000 ≤ (doV (suV lat lo hi m) (toV a b)).lo ∧ (doV (suV lat lo hi m) (toV a b)).lo ≤ (doV (suV lat lo hi m) (toV a b)).hi ∧ (doV (suV lat lo hi m) (toV a b)).hi ≤ 20000000 := fun a b => by
    obtain ⟨c1, c2, c3, c4, c5, c6, c7, c8, c9⟩ := toV_bd a b
    exact doV_bd a1 a2 a3 a4 a5 a6 a7 a8 a9 c1 c2 c3 c4 c5 c6 c7 c8 c9
  obtain ⟨x1, x2, x3⟩ := key (az - 324000) 0
  obtain ⟨y1, y2, y3⟩ := key az (sl + 324000)
  obtain ⟨z1, z2, z3⟩ := key az sl
  exact ⟨x1, x2, x3, y1, y2, y3, z1, z2, z3⟩
theorem paV_bd' (az sl : Int) {v : V3} (a0 : -3000000 ≤ v.x.lo) (a1 : v.x.lo ≤ v.x.hi) (a2 : v.x.hi ≤ 3000000) (b0 : -3000000 ≤ v.y.lo) (b1 : v.y.lo ≤ v.y.hi) (b2 : v.y.hi ≤ 3000000) (c0 : -3000000 ≤ v.z.lo) (c1 : v.z.lo ≤ v.z.hi) (c2 : v.z.hi ≤ 3000000) :
    -20000000 ≤ (paV az sl v).x.lo ∧ (paV az sl v).x.lo ≤ (paV az sl v).x.hi ∧ (paV az sl v).x.hi ≤ 20000000 ∧ -20000000 ≤ (paV az sl v).y.lo ∧ (paV az sl v).y.lo ≤ (paV az sl v).y.hi ∧ (paV az sl v).y.hi ≤ 20000000 ∧
    -20000000 ≤ (paV az sl v).z.lo ∧ (paV az sl v).z.lo ≤ (paV az sl v).z.hi ∧ (paV az sl v).z.hi ≤ 20000000 := by
  have key : ∀ a b, -20000000 ≤ (doV v (toV a b)).lo ∧ (doV v (toV a b)).lo ≤ (doV v (toV a b)).hi ∧ (doV v (toV a b)).hi ≤ 20000000 := fun a b => by
    obtain ⟨t1, t2, t3, t4, t5, t6, t7, t8, t9⟩ := toV_bd a b
    exact doV_bd a0 a1 a2 b0 b1 b2 c0 c1 c2 t1 t2 t3 t4 t5 t6 t7 t8 t9
  obtain ⟨x1, x2, x3⟩ := key (az - 324000) 0
  obtain ⟨y1, y2, y3⟩ := key az (sl + 324000)
  obtain ⟨z1, z2, z3⟩ := key az sl
  exact ⟨x1, x2, x3, y1, y2, y3, z1, z2, z3⟩
/-- Is a vector with small parts valid? -/
theorem veB_small {v : V3} (a0 : -3000000 ≤ v.x.lo) (a1 : v.x.lo ≤ v.x.hi) (a2 : v.x.hi ≤ 3000000) (b0 : -3000000 ≤ v.y.lo) (b1 : v.y.lo ≤ v.y.hi) (b2 : v.y.hi ≤ 3000000) (c0 : -3000000 ≤ v.z.lo) (c1 : v.z.lo ≤ v.z.hi) (c2 : v.z.hi ≤ 3000000) :
    veB v.x.lo v.x.hi v.y.lo v.y.hi v.z.lo v.z.hi = true := by
  unfold veB
  rw [paB_t (by omega) (by omega) (by omega), paB_t (by omega) (by omega) (by omega), paB_t (by omega) (by omega) (by omega)]; rfl
/-- The place in the end: of a place whose quotients are no intervals there is none either way. -/
theorem pl_quot {h : Int} {p : V3} (h0 : 1 ≤ h) (x1 : (diI p.x p.z).lo ≤ (diI p.x p.z).hi) (y1 : (diI p.y p.z).lo ≤ (diI p.y p.z).hi) (hp : plB (spP h p) = true) :
    ivB (diI p.x p.z).lo (diI p.x p.z).hi = true ∧ ivB (diI p.y p.z).lo (diI p.y p.z).hi = true := by
  unfold plB spP at hp
  simp only [Bool.and_eq_true] at hp
  constructor
  · cases e : ivB (diI p.x p.z).lo (diI p.x p.z).hi with
    | true => rfl
    | false => have := faI_no h0 x1 e; rw [this] at hp; cases hp.1
  · cases e : ivB (diI p.y p.z).lo (diI p.y p.z).hi with
    | true => rfl
    | false => have := faI_no h0 y1 e; rw [this] at hp; cases hp.2
/-- A dial. -/
def heB (h : Int) : Bool := inB h 1 10000
def wlB (az sl : Int) : Bool := inB az 0 1295999 && inB sl (-324000) 324000
def dlB (lat az sl h : Int) : Bool := inB lat (-324000) 324000 && (wlB az sl && heB h)
theorem dlB_t {lat az sl h : Int} (e : dlB lat az sl h = true) : -324000 ≤ lat ∧ lat ≤ 324000 ∧ 0 ≤ az ∧ az ≤ 1295999 ∧ -324000 ≤ sl ∧ sl ≤ 324000 ∧ 1 ≤ h ∧ h ≤ 10000 := by
  unfold dlB wlB heB at e
  simp only [Bool.and_eq_true] at e
  have := inB_iff.1 e.1
  have := inB_iff.1 e.2.1.1
  have := inB_iff.1 e.2.1.2
  have := inB_iff.1 e.2.2
  omega

end Go.Proofs.YteooegliepbcnaaGreat
