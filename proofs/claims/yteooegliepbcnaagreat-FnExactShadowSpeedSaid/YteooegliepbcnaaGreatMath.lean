/- Plain laws on integers: the numbers that the program and the reference compute. No program is in sight here. -/
namespace Go.Proofs.YteooegliepbcnaaGreat
set_option linter.unusedVariables false
set_option linter.unusedSimpArgs false
set_option maxRecDepth 10000

theorem div_bd {a b c : Int} (k : Int) (hk : 0 < k) (h0 : 0 ≤ a) (h : a ≤ b) (hc : b / k = c) : 0 ≤ a / k ∧ a / k ≤ c :=
  ⟨Int.ediv_nonneg h0 (by omega), by rw [← hc]; exact Int.ediv_le_ediv hk h⟩
theorem mul_bd {a b A B C : Int} (h0 : 0 ≤ a) (h1 : a ≤ A) (k0 : 0 ≤ b) (k1 : b ≤ B) (hc : A * B = C) : 0 ≤ a * b ∧ a * b ≤ C :=
  ⟨Int.mul_nonneg h0 k0, by rw [← hc]; exact Int.mul_le_mul h1 k1 k0 (by omega)⟩
/-- The product of two numbers within bounds. -/
theorem mul_abs {a b A B : Int} (h0 : -A ≤ a) (h1 : a ≤ A) (k0 : -B ≤ b) (k1 : b ≤ B) : -(A * B) ≤ a * b ∧ a * b ≤ A * B := by
  have hA : 0 ≤ A := by omega
  have hB : 0 ≤ B := by omega
  by_cases ha : 0 ≤ a <;> by_cases hb : 0 ≤ b
  · have := mul_bd ha h1 hb k1 rfl; omega
  · have := mul_bd (b := -b) ha h1 (by omega) (by omega : -b ≤ B) rfl
    rw [Int.mul_neg] at this; omega
  · have := mul_bd (a := -a) (by omega) (by omega : -a ≤ A) hb k1 rfl
    rw [Int.neg_mul] at this; omega
  · have := mul_bd (a := -a) (b := -b) (by omega) (by omega : -a ≤ A) (by omega) (by omega : -b ≤ B) rfl
    rw [Int.neg_mul_neg] at this; omega

theorem tdiv_fix (a b : Int) (hb : 0 < b) : a / b = if a.tmod b < 0 then a.tdiv b - 1 else a.tdiv b := by
  have e := Int.mul_tdiv_add_tmod a b
  by_cases h0 : 0 ≤ a
  · have := Int.tmod_nonneg b h0
    rw [if_neg (by omega)]; exact (Int.tdiv_eq_ediv_of_nonneg h0).symm
  · have h1 : a.tmod b ≤ 0 := by
      have := Int.tmod_nonneg b (a := -a) (by omega)
      rw [Int.neg_tmod] at this; omega
    have h2 : -b < a.tmod b := by
      have := Int.tmod_lt_of_pos (-a) hb
      rw [Int.neg_tmod] at this; omega
    split
    · refine ((Int.ediv_emod_unique hb).2 ⟨?_, ?_, ?_⟩ : a / b = a.tdiv b - 1 ∧ a % b = a.tmod b + b).1
      · rw [Int.mul_sub]; omega
      · omega
      · omega
    · exact ((Int.ediv_emod_unique hb).2 ⟨by omega, by omega, by omega⟩ : a / b = a.tdiv b ∧ a % b = a.tmod b).1
theorem tmod_fix (a b : Int) (hb : 0 < b) : a % b = if a.tmod b < 0 then a.tmod b + b else a.tmod b := by
  have e := Int.mul_tdiv_add_tmod a b
  have f := tdiv_fix a b hb
  have g := Int.mul_ediv_add_emod a b
  by_cases h : a.tmod b < 0
  · rw [if_pos h] at f ⊢; rw [f, Int.mul_sub] at g; omega
  · rw [if_neg h] at f ⊢; rw [f] at g; omega
theorem tdiv_abs (a b : Int) (hb : 0 < b) : (0 ≤ a → 0 ≤ a.tdiv b ∧ a.tdiv b ≤ a) ∧ (a ≤ 0 → a ≤ a.tdiv b ∧ a.tdiv b ≤ 0) := by
  constructor
  · intro h; rw [Int.tdiv_eq_ediv_of_nonneg h]; exact ⟨Int.ediv_nonneg h (by omega), Int.ediv_le_self _ h⟩
  · intro h
    have h' : 0 ≤ -a := by omega
    have k1 := Int.ediv_nonneg h' (Int.le_of_lt hb)
    have k2 := Int.ediv_le_self b h'
    rw [← Int.tdiv_eq_ediv_of_nonneg h', Int.neg_tdiv] at k1 k2
    omega
theorem tmod_abs (a b : Int) (hb : 0 < b) : -b ≤ a.tmod b ∧ a.tmod b < b := by
  have h := tmod_fix a b hb
  have h1 := Int.emod_nonneg a (show b ≠ 0 by omega)
  have h2 := Int.emod_lt_of_pos a hb
  split at h <;> omega
theorem div_abs {a A : Int} (b : Int) (hb : 0 < b) (h0 : -A ≤ a) (h1 : a ≤ A) : -A ≤ a / b ∧ a / b ≤ A := by
  by_cases h : 0 ≤ a
  · have := Int.ediv_nonneg h (Int.le_of_lt hb); have := Int.ediv_le_self b h; omega
  · have h3 : a / b < 0 := Int.ediv_neg_of_neg_of_pos (by omega) hb
    have h5 : a ≤ a / b := by
      rw [Int.le_ediv_iff_mul_le hb]
      have := Int.mul_le_mul_of_nonpos_left (show a ≤ 0 by omega) (show (1 : Int) ≤ b by omega)
      rw [Int.mul_one] at this; exact this
    omega

/-- Is a number within bounds? -/
def inB (n l h : Int) : Bool := decide (l ≤ n ∧ n ≤ h)
theorem inB_t {n l h : Int} (h1 : l ≤ n) (h2 : n ≤ h) : inB n l h = true := by unfold inB; exact decide_eq_true ⟨h1, h2⟩
theorem inB_f {n l h : Int} (h1 : n < l ∨ h < n) : inB n l h = false := by unfold inB; exact decide_eq_false (by omega)
theorem inB_iff {n l h : Int} : inB n l h = true ↔ l ≤ n ∧ n ≤ h := by unfold inB; simp
theorem inB_no {n l h : Int} (e : inB n l h = false) : n < l ∨ h < n := by unfold inB at e; have := of_decide_eq_false e; omega
theorem inB_cases (n l h : Int) : (l ≤ n ∧ n ≤ h ∧ inB n l h = true) ∨ ((n < l ∨ h < n) ∧ inB n l h = false) := by
  by_cases k : l ≤ n ∧ n ≤ h
  · exact Or.inl ⟨k.1, k.2, inB_t k.1 k.2⟩
  · exact Or.inr ⟨by omega, inB_f (by omega)⟩
/-- Is an interval valid? -/
def ivB (a b : Int) : Bool := decide (-1000000000000 ≤ a ∧ a ≤ b ∧ b ≤ 1000000000000)
theorem ivB_cases (a b : Int) : (-1000000000000 ≤ a ∧ a ≤ b ∧ b ≤ 1000000000000 ∧ ivB a b = true) ∨ ((a < -1000000000000 ∨ b < a ∨ 1000000000000 < b) ∧ ivB a b = false) := by
  unfold ivB
  by_cases k : -1000000000000 ≤ a ∧ a ≤ b ∧ b ≤ 1000000000000
  · exact Or.inl ⟨k.1, k.2.1, k.2.2, decide_eq_true k⟩
  · exact Or.inr ⟨by omega, decide_eq_false k⟩
theorem ivB_iff {a b : Int} : ivB a b = true ↔ -1000000000000 ≤ a ∧ a ≤ b ∧ b ≤ 1000000000000 := by unfold ivB; simp
theorem ivB_f {a b : Int} (h : a < -1000000000000 ∨ b < a ∨ 1000000000000 < b) : ivB a b = false := by unfold ivB; exact decide_eq_false (by omega)
theorem ivB_t {a b : Int} (h1 : -1000000000000 ≤ a) (h2 : a ≤ b) (h3 : b ≤ 1000000000000) : ivB a b = true := ivB_iff.2 ⟨h1, h2, h3⟩
/-- May an interval be a part of a vector? -/
def paB (a b : Int) : Bool := decide (-10000000 ≤ a ∧ a ≤ b ∧ b ≤ 10000000)
theorem paB_cases (a b : Int) : (-10000000 ≤ a ∧ a ≤ b ∧ b ≤ 10000000 ∧ paB a b = true) ∨ ((a < -10000000 ∨ b < a ∨ 10000000 < b) ∧ paB a b = false) := by
  unfold paB
  by_cases k : -10000000 ≤ a ∧ a ≤ b ∧ b ≤ 10000000
  · exact Or.inl ⟨k.1, k.2.1, k.2.2, decide_eq_true k⟩
  · exact Or.inr ⟨by omega, decide_eq_false k⟩
theorem paB_f {a b : Int} (h : a < -10000000 ∨ b < a ∨ 10000000 < b) : paB a b = false := by unfold paB; exact decide_eq_false (by omega)
theorem paB_t {a b : Int} (h1 : -10000000 ≤ a) (h2 : a ≤ b) (h3 : b ≤ 10000000) : paB a b = true := by unfold paB; exact decide_eq_true ⟨h1, h2, h3⟩
/-- Is a vector valid? -/
def veB (a b c d e f : Int) : Bool := paB a b && paB c d && paB e f

/-- A fraction, rounded down; the divisor may be negative. -/
def flM (a b : Int) : Int := if b < 0 then (-a) / (-b) else a / b
theorem flM_pos {a b : Int} (h : 0 < b) : flM a b = a / b := by unfold flM; rw [if_neg (by omega)]
/-- A fraction, rounded up; the divisor is positive. -/
def ceM (a b : Int) : Int := -((-a) / b)
/-- The nearest integer to a fraction; the divisor is positive. -/
def neM (a b : Int) : Int := (2 * a + b) / (2 * b)
theorem neM_eq (a b : Int) (hb : 0 < b) : neM a b = if a - a / b * b ≥ b - (a - a / b * b) then a / b + 1 else a / b := by
  unfold neM
  have e := Int.mul_ediv_add_emod a b
  have h1 := Int.emod_nonneg a (show b ≠ 0 by omega)
  have h2 := Int.emod_lt_of_pos a hb
  have c : a / b * b = b * (a / b) := Int.mul_comm _ _
  have d : 2 * b * (a / b) = 2 * (b * (a / b)) := Int.mul_assoc _ _ _
  have d2 : 2 * b * (a / b + 1) = 2 * (b * (a / b)) + 2 * b := by rw [Int.mul_add, d]; omega
  generalize b * (a / b) = x at *
  split
  · exact ((Int.ediv_emod_unique (show 0 < 2 * b by omega)).2 ⟨by rw [d2]; exact (by omega : (2 * a + b - 2 * x - 2 * b) + (2 * x + 2 * b) = 2 * a + b), by omega, by omega⟩ : _ ∧ (2 * a + b) % (2 * b) = 2 * a + b - 2 * x - 2 * b).1
  · exact ((Int.ediv_emod_unique (show 0 < 2 * b by omega)).2 ⟨by rw [d]; exact (by omega : (2 * a + b - 2 * x) + 2 * x = 2 * a + b), by omega, by omega⟩ : _ ∧ (2 * a + b) % (2 * b) = 2 * a + b - 2 * x).1
theorem neM_bd (a b A : Int) (hb : 0 < b) (h0 : -A ≤ a) (h1 : a ≤ A) : -A - 1 ≤ neM a b ∧ neM a b ≤ A + 1 := by
  have h := neM_eq a b hb
  have k := div_abs b hb h0 h1
  split at h <;> omega

def plM (a : Int) : Int := a % 1296000
def sgM (a : Int) : Int := (a + 648000) % 1296000 - 648000
theorem plM_bd (a : Int) : 0 ≤ plM a ∧ plM a < 1296000 := by unfold plM; omega
theorem sgM_bd (a : Int) : -648000 ≤ sgM a ∧ sgM a < 648000 := by unfold sgM; omega

def xM (r : Int) : Int := r * 48481368 / 10000
def yM (x : Int) : Int := x * x / 1000000000
def t3M (x : Int) : Int := x * yM x / 1000000000 / 6
def t5M (x : Int) : Int := t3M x * yM x / 1000000000 / 20
def t7M (x : Int) : Int := t5M x * yM x / 1000000000 / 42
def t9M (x : Int) : Int := t7M x * yM x / 1000000000 / 72
def c2M (x : Int) : Int := yM x / 2
def c4M (x : Int) : Int := c2M x * yM x / 1000000000 / 12
def c6M (x : Int) : Int := c4M x * yM x / 1000000000 / 30
def c8M (x : Int) : Int := c6M x * yM x / 1000000000 / 56
def c10M (x : Int) : Int := c8M x * yM x / 1000000000 / 90
/-- The nano sine of an angle of at most an eighth of a turn. -/
def pM (r : Int) : Int := xM r - t3M (xM r) + t5M (xM r) - t7M (xM r) + t9M (xM r)
/-- The nano cosine of such an angle. -/
def qM (r : Int) : Int := 1000000000 - c2M (xM r) + c4M (xM r) - c6M (xM r) + c8M (xM r) - c10M (xM r)

theorem x_bd (r : Int) (h1 : 0 ≤ r) (h2 : r ≤ 162000) : 0 ≤ r * 48481368 ∧ r * 48481368 ≤ 7853981616000 ∧ 0 ≤ r * 48481368 / 10000 ∧ r * 48481368 / 10000 ≤ 785398161 := by omega
theorem pq_bd (r : Int) (h1 : 0 ≤ r) (h2 : r ≤ 162000) : -200000000 ≤ pM r ∧ pM r ≤ 1000000000 ∧ 500000000 ≤ qM r ∧ qM r ≤ 1100000000 := by
  obtain ⟨a0, a1, x0, x1⟩ := x_bd r h1 h2
  obtain ⟨a2, a3⟩ := mul_bd x0 x1 x0 x1 rfl
  obtain ⟨y0, y1⟩ := div_bd 1000000000 (by omega) a2 a3 rfl
  obtain ⟨a4, a5⟩ := mul_bd x0 x1 y0 y1 rfl
  obtain ⟨a6, a7⟩ := div_bd 1000000000 (by omega) a4 a5 rfl
  obtain ⟨t30, t31⟩ := div_bd 6 (by omega) a6 a7 rfl
  obtain ⟨a8, a9⟩ := mul_bd t30 t31 y0 y1 rfl
  obtain ⟨a10, a11⟩ := div_bd 1000000000 (by omega) a8 a9 rfl
  obtain ⟨t50, t51⟩ := div_bd 20 (by omega) a10 a11 rfl
  obtain ⟨a12, a13⟩ := mul_bd t50 t51 y0 y1 rfl
  obtain ⟨a14, a15⟩ := div_bd 1000000000 (by omega) a12 a13 rfl
  obtain ⟨t70, t71⟩ := div_bd 42 (by omega) a14 a15 rfl
  obtain ⟨a16, a17⟩ := mul_bd t70 t71 y0 y1 rfl
  obtain ⟨a18, a19⟩ := div_bd 1000000000 (by omega) a16 a17 rfl
  obtain ⟨t90, t91⟩ := div_bd 72 (by omega) a18 a19 rfl
  obtain ⟨c20, c21⟩ := div_bd 2 (by omega) y0 y1 rfl
  obtain ⟨d0, d1⟩ := mul_bd c20 c21 y0 y1 rfl
  obtain ⟨d2, d3⟩ := div_bd 1000000000 (by omega) d0 d1 rfl
  obtain ⟨c40, c41⟩ := div_bd 12 (by omega) d2 d3 rfl
  obtain ⟨d4, d5⟩ := mul_bd c40 c41 y0 y1 rfl
  obtain ⟨d6, d7⟩ := div_bd 1000000000 (by omega) d4 d5 rfl
  obtain ⟨c60, c61⟩ := div_bd 30 (by omega) d6 d7 rfl
  obtain ⟨d8, d9⟩ := mul_bd c60 c61 y0 y1 rfl
  obtain ⟨d10, d11⟩ := div_bd 1000000000 (by omega) d8 d9 rfl
  obtain ⟨c80, c81⟩ := div_bd 56 (by omega) d10 d11 rfl
  obtain ⟨d12, d13⟩ := mul_bd c80 c81 y0 y1 rfl
  obtain ⟨d14, d15⟩ := div_bd 1000000000 (by omega) d12 d13 rfl
  obtain ⟨c100, c101⟩ := div_bd 90 (by omega) d14 d15 rfl
  simp only [pM, qM, xM, yM, t3M, t5M, t7M, t9M, c2M, c4M, c6M, c8M, c10M]
  clear a2 a3 a4 a5 a6 a7 a8 a9 a10 a11 a12 a13 a14 a15 a16 a17 a18 a19 d0 d1 d2 d3 d4 d5 d6 d7 d8 d9 d10 d11 d12 d13 d14 d15
  generalize r * 48481368 / 10000 * (r * 48481368 / 10000 * (r * 48481368 / 10000) / 1000000000) / 1000000000 / 6 = t3 at *
  generalize r * 48481368 / 10000 * (r * 48481368 / 10000) / 1000000000 = y at *
  generalize t3 * y / 1000000000 / 20 = t5 at *
  generalize t5 * y / 1000000000 / 42 = t7 at *
  generalize t7 * y / 1000000000 / 72 = t9 at *
  generalize y / 2 = c2 at *
  generalize c2 * y / 1000000000 / 12 = c4 at *
  generalize c4 * y / 1000000000 / 30 = c6 at *
  generalize c6 * y / 1000000000 / 56 = c8 at *
  generalize c8 * y / 1000000000 / 90 = c10 at *
  omega

/-- The nano sine of an angle within a quarter of a turn. -/
def quM (r : Int) : Int := if r ≤ 162000 then pM r else qM (324000 - r)
theorem quM_bd (r : Int) (h1 : 0 ≤ r) (h2 : r ≤ 324000) : -1100000000 ≤ quM r ∧ quM r ≤ 1100000000 := by
  unfold quM
  split
  · have := pq_bd r h1 (by omega); omega
  · have := pq_bd (324000 - r) (by omega) (by omega); omega
/-- The nano sine of an angle. -/
def nsM (a : Int) : Int :=
  if plM a < 324000 then quM (plM a) else if plM a < 648000 then quM (648000 - plM a) else if plM a < 972000 then -quM (plM a - 648000) else -quM (1296000 - plM a)
theorem nsM_bd (a : Int) : -1100000000 ≤ nsM a ∧ nsM a ≤ 1100000000 := by
  have h := plM_bd a
  unfold nsM
  split
  · have := quM_bd (plM a) (by omega) (by omega); omega
  · split
    · have := quM_bd (648000 - plM a) (by omega) (by omega); omega
    · split
      · have := quM_bd (plM a - 648000) (by omega) (by omega); omega
      · have := quM_bd (1296000 - plM a) (by omega) (by omega); omega
/-- The bounds of the sine interval. -/
def sL (a : Int) : Int := (nsM a - 60) / 1000
def sH (a : Int) : Int := -((-(nsM a + 60)) / 1000)
theorem s_bd (a : Int) : -1100001 ≤ sL a ∧ sL a ≤ sH a ∧ sH a ≤ 1100001 := by
  have := nsM_bd a
  unfold sL sH; omega

/-- The result of halving. -/
def bisM (P : Int → Bool) (lo hi : Int) : Int :=
  if 1 < hi - lo then (if P ((lo + hi) / 2) then bisM P ((lo + hi) / 2) hi else bisM P lo ((lo + hi) / 2)) else lo
termination_by (hi - lo).toNat
decreasing_by all_goals omega
theorem bisM_yes {P : Int → Bool} {lo hi : Int} (h : 1 < hi - lo) (hp : P ((lo + hi) / 2) = true) : bisM P lo hi = bisM P ((lo + hi) / 2) hi := by
  rw [bisM, if_pos h, if_pos hp]
theorem bisM_no {P : Int → Bool} {lo hi : Int} (h : 1 < hi - lo) (hp : P ((lo + hi) / 2) = false) : bisM P lo hi = bisM P lo ((lo + hi) / 2) := by
  rw [bisM, if_pos h, if_neg (by simp [hp])]
theorem bisM_end {P : Int → Bool} {lo hi : Int} (h : ¬ 1 < hi - lo) : bisM P lo hi = lo := by
  rw [bisM, if_neg h]
theorem bisM_bd (P : Int → Bool) (lo hi : Int) (h : lo < hi) : lo ≤ bisM P lo hi ∧ bisM P lo hi < hi := by
  by_cases h1 : 1 < hi - lo
  · cases hp : P ((lo + hi) / 2)
    · rw [bisM_no h1 hp]; have := bisM_bd P lo ((lo + hi) / 2) (by omega); omega
    · rw [bisM_yes h1 hp]; have := bisM_bd P ((lo + hi) / 2) hi (by omega); omega
  · rw [bisM_end h1]; omega
termination_by (hi - lo).toNat
decreasing_by all_goals omega

def keM (a : Int) : Int := min (max a (-324000)) 324000
/-- The bounds of the arc of a sine. -/
def aLb (v : Int) : Int := bisM (fun m => decide (sH m < v)) (-324001) 324001
def aHb (v : Int) : Int := bisM (fun m => decide (sL m ≤ v)) (-324001) 324001
def aL (v : Int) : Int := keM (aLb v)
def aH (v : Int) : Int := keM (1 + aHb v)
theorem keM_bd (a : Int) : -324000 ≤ keM a ∧ keM a ≤ 324000 := by unfold keM; omega
theorem aLb_bd (v : Int) : -324001 ≤ aLb v ∧ aLb v < 324001 := bisM_bd _ _ _ (by omega)
theorem aHb_bd (v : Int) : -324001 ≤ aHb v ∧ aHb v < 324001 := bisM_bd _ _ _ (by omega)
theorem aL_bd (v : Int) : -324000 ≤ aL v ∧ aL v ≤ 324000 := keM_bd _
theorem aH_bd (v : Int) : -324000 ≤ aH v ∧ aH v ≤ 324000 := keM_bd _

/-- An interval. -/
structure Iv where
  lo : Int
  hi : Int
def plI (a b : Iv) : Iv := ⟨a.lo + b.lo, a.hi + b.hi⟩
def miI (a b : Iv) : Iv := ⟨a.lo - b.hi, a.hi - b.lo⟩
def huI (a b : Iv) : Iv := ⟨min a.lo b.lo, max a.hi b.hi⟩
def mn4 (p q r s : Int) : Int := min (min (min p q) r) s
def mx4 (p q r s : Int) : Int := max (max (max p q) r) s
def mx3 (p q r : Int) : Int := max (max p q) r
theorem mn4_bd {p q r s l h : Int} (p0 : l ≤ p) (p1 : p ≤ h) (q0 : l ≤ q) (q1 : q ≤ h) (r0 : l ≤ r) (r1 : r ≤ h) (s0 : l ≤ s) (s1 : s ≤ h) : l ≤ mn4 p q r s ∧ mn4 p q r s ≤ h := by unfold mn4; omega
theorem mx4_bd {p q r s l h : Int} (p0 : l ≤ p) (p1 : p ≤ h) (q0 : l ≤ q) (q1 : q ≤ h) (r0 : l ≤ r) (r1 : r ≤ h) (s0 : l ≤ s) (s1 : s ≤ h) : l ≤ mx4 p q r s ∧ mx4 p q r s ≤ h := by unfold mx4; omega
theorem mn4_le_mx4 (p q r s : Int) : mn4 p q r s ≤ mx4 p q r s := by unfold mn4 mx4; omega
def muI (a b : Iv) : Iv := ⟨mn4 (a.lo * b.lo) (a.lo * b.hi) (a.hi * b.lo) (a.hi * b.hi) / 1000000, -((-(mx4 (a.lo * b.lo) (a.lo * b.hi) (a.hi * b.lo) (a.hi * b.hi))) / 1000000)⟩

/-- The product of two intervals within bounds. -/
theorem muI_bd {a b c d : Int} (A B : Int) (a0 : -A ≤ a) (a1 : a ≤ A) (b0 : -A ≤ b) (b1 : b ≤ A) (c0 : -B ≤ c) (c1 : c ≤ B) (d0 : -B ≤ d) (d1 : d ≤ B) :
    -(A * B / 1000000) - 1 ≤ (muI ⟨a, b⟩ ⟨c, d⟩).lo ∧ (muI ⟨a, b⟩ ⟨c, d⟩).lo ≤ (muI ⟨a, b⟩ ⟨c, d⟩).hi ∧ (muI ⟨a, b⟩ ⟨c, d⟩).hi ≤ A * B / 1000000 + 1 := by
  have p := mul_abs a0 a1 c0 c1
  have q := mul_abs a0 a1 d0 d1
  have r := mul_abs b0 b1 c0 c1
  have s := mul_abs b0 b1 d0 d1
  have m := mn4_bd p.1 p.2 q.1 q.2 r.1 r.2 s.1 s.2
  have M := mx4_bd p.1 p.2 q.1 q.2 r.1 r.2 s.1 s.2
  have l := mn4_le_mx4 (a * c) (a * d) (b * c) (b * d)
  unfold muI
  dsimp only
  generalize mn4 (a * c) (a * d) (b * c) (b * d) = x at *
  generalize mx4 (a * c) (a * d) (b * c) (b * d) = y at *
  clear p q r s
  generalize A * B = z at *
  omega

/-- The hull of the sines of an interval of angles. -/
def srI (a b : Int) : Iv :=
  if a + plM (-324000 - a) ≤ b then (if a + plM (324000 - a) ≤ b then huI (huI (huI ⟨sL a, sH a⟩ ⟨sL b, sH b⟩) ⟨1000000, 1000000⟩) ⟨-1000000, -1000000⟩ else huI (huI ⟨sL a, sH a⟩ ⟨sL b, sH b⟩) ⟨-1000000, -1000000⟩)
  else if a + plM (324000 - a) ≤ b then huI (huI ⟨sL a, sH a⟩ ⟨sL b, sH b⟩) ⟨1000000, 1000000⟩ else huI ⟨sL a, sH a⟩ ⟨sL b, sH b⟩
theorem srI_bd (a b : Int) : -1100001 ≤ (srI a b).lo ∧ (srI a b).lo ≤ (srI a b).hi ∧ (srI a b).hi ≤ 1100001 := by
  have h1 := s_bd a
  have h2 := s_bd b
  unfold srI huI
  dsimp only
  split <;> split <;> dsimp only <;> omega

end Go.Proofs.YteooegliepbcnaaGreat
