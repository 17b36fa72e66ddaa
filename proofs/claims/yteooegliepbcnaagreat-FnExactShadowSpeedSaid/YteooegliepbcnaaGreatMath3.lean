/- Plain laws on integers: the light of the minutes of a day. No program is in sight here. -/
import Derived.Test.YteooegliepbcnaaGreatMath2
namespace Go.Proofs.YteooegliepbcnaaGreat
set_option linter.unusedVariables false
set_option linter.unusedSimpArgs false
set_option maxRecDepth 10000

/-- The light of a height, for the edge of the horizon. -/
def lgM (zl zh el eh : Int) : Int := if zl > eh then 1 else if zh < el then -1 else 0
theorem lgM_cases (zl zh el eh : Int) : (zl > eh ∧ lgM zl zh el eh = 1) ∨ (¬ zl > eh ∧ zh < el ∧ lgM zl zh el eh = -1) ∨ (¬ zl > eh ∧ ¬ zh < el ∧ lgM zl zh el eh = 0) := by
  unfold lgM
  by_cases a : zl > eh
  · exact Or.inl ⟨a, by rw [if_pos a]⟩
  · by_cases b : zh < el
    · exact Or.inr (Or.inl ⟨a, b, by rw [if_neg a, if_pos b]⟩)
    · exact Or.inr (Or.inr ⟨a, b, by rw [if_neg a, if_neg b]⟩)
/-- The light of a minute. -/
def ltM (lat lo hi h m : Int) : Int := lgM (suV lat lo hi m).z.lo (suV lat lo hi m).z.hi (sL h) (sH h)
theorem ltM_cases (lat lo hi h m : Int) : ltM lat lo hi h m = 1 ∨ ltM lat lo hi h m = 0 ∨ ltM lat lo hi h m = -1 := by
  rcases lgM_cases (suV lat lo hi m).z.lo (suV lat lo hi m).z.hi (sL h) (sH h) with ⟨_, e⟩ | ⟨_, _, e⟩ | ⟨_, _, e⟩ <;> unfold ltM <;> omega
/-- The light of the minutes of a day. -/
def dyM (lat n h : Int) (i : Nat) : Int := ltM lat (deI n).lo (deI n).hi h i
theorem dyM_cases (lat n h : Int) (i : Nat) : dyM lat n h i = 1 ∨ dyM lat n h i = 0 ∨ dyM lat n h i = -1 := ltM_cases _ _ _ _ _

/-- The light of minute i, for a declination and an edge. -/
def dlM (lat lo hi el eh : Int) (i : Nat) : Int := lgM (suV lat lo hi i).z.lo (suV lat lo hi i).z.hi el eh
theorem dlM_cases (lat lo hi el eh : Int) (i : Nat) : dlM lat lo hi el eh i = 1 ∨ dlM lat lo hi el eh i = 0 ∨ dlM lat lo hi el eh i = -1 := by
  rcases lgM_cases (suV lat lo hi i).z.lo (suV lat lo hi i).z.hi el eh with ⟨_, e⟩ | ⟨_, _, e⟩ | ⟨_, _, e⟩ <;> unfold dlM <;> omega
theorem dyM_eq (lat n h : Int) : dyM lat n h = dlM lat (deI n).lo (deI n).hi (sL h) (sH h) := rfl
/-- Are numbers a latitude, a day and a minute; a latitude, a day and a horizon? -/
def moB (lat n m : Int) : Bool := inB lat (-324000) 324000 && (dayB n && inB m 0 1439)
def raB (lat n h : Int) : Bool := inB lat (-324000) 324000 && (dayB n && inB h (-36000) 36000)
theorem dayB_t {n : Int} (h : dayB n = true) : -1000000 ≤ n ∧ n ≤ 1000000 := by have := inB_iff.1 h; omega
theorem moB_t {lat n m : Int} (h : moB lat n m = true) : -324000 ≤ lat ∧ lat ≤ 324000 ∧ -1000000 ≤ n ∧ n ≤ 1000000 ∧ 0 ≤ m ∧ m ≤ 1439 := by
  unfold moB at h
  simp only [Bool.and_eq_true] at h
  have := inB_iff.1 h.1
  have := dayB_t h.2.1
  have := inB_iff.1 h.2.2
  omega
theorem raB_t {lat n h : Int} (e : raB lat n h = true) : -324000 ≤ lat ∧ lat ≤ 324000 ∧ -1000000 ≤ n ∧ n ≤ 1000000 ∧ -36000 ≤ h ∧ h ≤ 36000 := by
  unfold raB at e
  simp only [Bool.and_eq_true] at e
  have := inB_iff.1 e.1
  have := dayB_t e.2.1
  have := inB_iff.1 e.2.2
  omega
/-- The sign of an interval. -/
def sgI (lo hi : Int) : Int := if lo > 0 then 1 else if hi < 0 then -1 else 0
theorem sgI_cases (lo hi : Int) : (lo > 0 ∧ sgI lo hi = 1) ∨ (¬ lo > 0 ∧ hi < 0 ∧ sgI lo hi = -1) ∨ (¬ lo > 0 ∧ ¬ hi < 0 ∧ sgI lo hi = 0) := by
  unfold sgI
  by_cases a : lo > 0
  · exact Or.inl ⟨a, by rw [if_pos a]⟩
  · by_cases b : hi < 0
    · exact Or.inr (Or.inl ⟨a, b, by rw [if_neg a, if_pos b]⟩)
    · exact Or.inr (Or.inr ⟨a, b, by rw [if_neg a, if_neg b]⟩)

/-- How many of the first k are up; down; not down. -/
def upN (f : Nat → Int) : Nat → Int
  | 0 => 0
  | k + 1 => upN f k + (if f k = 1 then 1 else 0)
def dnN (f : Nat → Int) : Nat → Int
  | 0 => 0
  | k + 1 => dnN f k + (if f k = -1 then 1 else 0)
theorem upN_bd (f : Nat → Int) : ∀ k : Nat, 0 ≤ upN f k ∧ upN f k ≤ k
  | 0 => by simp [upN]
  | k + 1 => by have := upN_bd f k; unfold upN; split <;> omega
theorem dnN_bd (f : Nat → Int) : ∀ k : Nat, 0 ≤ dnN f k ∧ dnN f k ≤ k
  | 0 => by simp [dnN]
  | k + 1 => by have := dnN_bd f k; unfold dnN; split <;> omega
theorem upN_yes {f : Nat → Int} {k : Nat} (h : f k = 1) : upN f (k + 1) = upN f k + 1 := by simp [upN, h]
theorem upN_no {f : Nat → Int} {k : Nat} (h : f k ≠ 1) : upN f (k + 1) = upN f k := by simp [upN, h]
theorem dnN_yes {f : Nat → Int} {k : Nat} (h : f k = -1) : dnN f (k + 1) = dnN f k + 1 := by simp [dnN, h]
theorem dnN_no {f : Nat → Int} {k : Nat} (h : f k ≠ -1) : dnN f (k + 1) = dnN f k := by simp [dnN, h]

/-- The last minute of the first k at which the sun was down, and the first behind it at which it is up. -/
def rsD (f : Nat → Int) : Nat → Int
  | 0 => -1
  | k + 1 => if f k = -1 then k else rsD f k
def rsU (f : Nat → Int) : Nat → Int
  | 0 => -1
  | k + 1 => if f k = -1 then -1 else if f k = 1 ∧ rsU f k < 0 then k else rsU f k
theorem rsD_bd (f : Nat → Int) : ∀ k : Nat, -1 ≤ rsD f k ∧ rsD f k ≤ k
  | 0 => by simp [rsD]
  | k + 1 => by have := rsD_bd f k; unfold rsD; split <;> omega
theorem rsU_bd (f : Nat → Int) : ∀ k : Nat, -1 ≤ rsU f k ∧ rsU f k ≤ k
  | 0 => by simp [rsU]
  | k + 1 => by have := rsU_bd f k; unfold rsU; split <;> (try split) <;> omega
theorem rs_down {f : Nat → Int} {k : Nat} (h : f k = -1) : rsD f (k + 1) = k ∧ rsU f (k + 1) = -1 := by simp [rsD, rsU, h]
theorem rs_up {f : Nat → Int} {k : Nat} (h : f k = 1) (u : rsU f k < 0) : rsD f (k + 1) = rsD f k ∧ rsU f (k + 1) = k := by simp [rsD, rsU, h, u]
theorem rs_keep {f : Nat → Int} {k : Nat} (h : f k ≠ -1) (u : f k ≠ 1 ∨ ¬ rsU f k < 0) : rsD f (k + 1) = rsD f k ∧ rsU f (k + 1) = rsU f k := by
  have e : ¬(f k = 1 ∧ rsU f k < 0) := by intro k; rcases u with u | u; exact u k.1; exact u k.2
  constructor
  · rw [rsD, if_neg h]
  · rw [rsU, if_neg h, if_neg e]

/-- The last minute from noon on of k at which the sun is up. -/
def stU (f : Nat → Int) : Nat → Int
  | 0 => -1
  | k + 1 => if f (720 + k) = 1 then 720 + k else stU f k
theorem stU_bd (f : Nat → Int) : ∀ k : Nat, -1 ≤ stU f k ∧ stU f k ≤ 720 + k
  | 0 => by simp [stU]
  | k + 1 => by have := stU_bd f k; unfold stU; split <;> omega
structure R3 where
  lo : Int
  hi : Int
  code : Int
/-- The bounds of the set, from minute 720 + k on. -/
def seM (f : Nat → Int) (k : Nat) : Nat → R3
  | 0 => ⟨0, 0, 4⟩
  | d + 1 => if f (720 + k) = -1 then (if stU f k < 0 then ⟨0, 0, 4⟩ else ⟨stU f k, 720 + k, 0⟩) else seM f (k + 1) d

/-- The bounds of the rise. -/
def riD (f : Nat → Int) (k : Nat) : R3 := if rsD f k < 0 then ⟨0, 0, 4⟩ else if rsU f k < 0 then ⟨0, 0, 4⟩ else ⟨rsD f k, rsU f k, 0⟩
theorem riD_cases (f : Nat → Int) (k : Nat) : (rsD f k < 0 ∧ riD f k = ⟨0, 0, 4⟩) ∨ (¬ rsD f k < 0 ∧ rsU f k < 0 ∧ riD f k = ⟨0, 0, 4⟩) ∨ (¬ rsD f k < 0 ∧ ¬ rsU f k < 0 ∧ riD f k = ⟨rsD f k, rsU f k, 0⟩) := by
  unfold riD
  by_cases a : rsD f k < 0
  · exact Or.inl ⟨a, by rw [if_pos a]⟩
  · by_cases b : rsU f k < 0
    · exact Or.inr (Or.inl ⟨a, b, by rw [if_neg a, if_pos b]⟩)
    · exact Or.inr (Or.inr ⟨a, b, by rw [if_neg a, if_neg b]⟩)
/-- The kind of a day. -/
def kiM (u d : Int) : Int := if u = 1440 then 1 else if d = 1440 then -1 else 0
theorem kiM_cases (u d : Int) : (u = 1440 ∧ kiM u d = 1) ∨ (¬ u = 1440 ∧ d = 1440 ∧ kiM u d = -1) ∨ (¬ u = 1440 ∧ ¬ d = 1440 ∧ kiM u d = 0) := by
  unfold kiM
  by_cases a : u = 1440
  · exact Or.inl ⟨a, by rw [if_pos a]⟩
  · by_cases b : d = 1440
    · exact Or.inr (Or.inl ⟨a, b, by rw [if_neg a, if_pos b]⟩)
    · exact Or.inr (Or.inr ⟨a, b, by rw [if_neg a, if_neg b]⟩)

/-- The best of some days. -/
def lgB (g : Nat → Int) : Nat → Nat × Int
  | 0 => (0, -1)
  | k + 1 => if g k > (lgB g k).2 then (k, g k) else lgB g k
theorem lgB_yes {g : Nat → Int} {k : Nat} (h : g k > (lgB g k).2) : lgB g (k + 1) = (k, g k) := by rw [lgB, if_pos h]
theorem lgB_no {g : Nat → Int} {k : Nat} (h : ¬ g k > (lgB g k).2) : lgB g (k + 1) = lgB g k := by rw [lgB, if_neg h]
theorem lgB_bd (g : Nat → Int) (A : Int) (hA : 0 ≤ A) (h : ∀ k, 0 ≤ g k ∧ g k ≤ A) : ∀ k : Nat, (lgB g k).1 ≤ k ∧ -1 ≤ (lgB g k).2 ∧ (lgB g k).2 ≤ A
  | 0 => by simp [lgB]; omega
  | k + 1 => by
    have := lgB_bd g A hA h k
    have := h k
    unfold lgB
    split
    · dsimp only; omega
    · omega

/-- The minutes of sun of the days from a on. -/
def loG (lat a h : Int) (i : Nat) : Int := upN (dyM lat (a + i) h) 1440
/-- Are numbers a latitude, a range of days and a horizon? -/
def loB (lat a b h : Int) : Bool := raB lat a h && (dayB b && inB b a (a + 39))
theorem dayB_w {n : Int} (h : dayB n = true) : -36159 ≤ n ∧ n ≤ 36524 := inB_iff.1 h

/-- Minutes that are down for one horizon and up for another; that are not up for one and not down for the other. -/
def twS (f g : Nat → Int) : Nat → Int
  | 0 => 0
  | k + 1 => twS f g k + (if f k = -1 ∧ g k = 1 then 1 else 0)
def twM (f g : Nat → Int) : Nat → Int
  | 0 => 0
  | k + 1 => twM f g k + (if f k ≠ 1 ∧ g k ≠ -1 then 1 else 0)
theorem tw_step (f g : Nat → Int) (k : Nat) (s m : Int) (hs : (if f k = -1 ∧ g k = 1 then (1 : Int) else 0) = s) (hm : (if f k ≠ 1 ∧ g k ≠ -1 then (1 : Int) else 0) = m) : twS f g (k + 1) = twS f g k + s ∧ twM f g (k + 1) = twM f g k + m := by
  subst hs hm; exact ⟨rfl, rfl⟩
theorem twS_bd (f g : Nat → Int) : ∀ k : Nat, 0 ≤ twS f g k ∧ twS f g k ≤ k
  | 0 => by simp [twS]
  | k + 1 => by have := twS_bd f g k; unfold twS; split <;> omega
theorem twM_bd (f g : Nat → Int) : ∀ k : Nat, 0 ≤ twM f g k ∧ twM f g k ≤ k
  | 0 => by simp [twM]
  | k + 1 => by have := twM_bd f g k; unfold twM; split <;> omega

/-- Products and dots. -/
theorem muI_comm (a b : Iv) : muI a b = muI b a := by
  unfold muI mn4 mx4
  simp only [Int.mul_comm b.lo, Int.mul_comm b.hi]
  congr 2
  · congr 1; omega
  · congr 1; omega
def doV (a b : V3) : Iv := plI (plI (muI a.x b.x) (muI a.y b.y)) (muI a.z b.z)
theorem doV_comm (a b : V3) : doV a b = doV b a := by unfold doV; rw [muI_comm a.x, muI_comm a.y, muI_comm a.z]
/-- A direction. -/
def toV (az al : Int) : V3 := ⟨muI (siI az) (siI (al + 324000)), muI (siI (az + 324000)) (siI (al + 324000)), siI al⟩
theorem sisi_bd (a b : Int) : -1210005 ≤ (muI (siI a) (siI b)).lo ∧ (muI (siI a) (siI b)).lo ≤ (muI (siI a) (siI b)).hi ∧ (muI (siI a) (siI b)).hi ≤ 1210005 := by
  have h1 := siI_bd a
  have h2 := siI_bd b
  have := muI_bd' (siI a) (siI b) 1100001 1100001 h1.1 h1.2.1 h1.2.2 h2.1 h2.2.1 h2.2.2
  omega
theorem toV_bd (az al : Int) : -1210005 ≤ (toV az al).x.lo ∧ (toV az al).x.lo ≤ (toV az al).x.hi ∧ (toV az al).x.hi ≤ 1210005 ∧
    -1210005 ≤ (toV az al).y.lo ∧ (toV az al).y.lo ≤ (toV az al).y.hi ∧ (toV az al).y.hi ≤ 1210005 ∧
    -1210005 ≤ (toV az al).z.lo ∧ (toV az al).z.lo ≤ (toV az al).z.hi ∧ (toV az al).z.hi ≤ 1210005 := by
  have h1 := sisi_bd az (al + 324000)
  have h2 := sisi_bd (az + 324000) (al + 324000)
  have h3 := siI_bd al
  unfold toV; dsimp only; omega
/-- Is a wall lit at a minute? -/
def liB (az sl lat lo hi m : Int) : Bool := decide ((suV lat lo hi m).z.lo > 0 ∧ (doV (suV lat lo hi m) (toV az sl)).lo > 0)
def liN (P : Nat → Bool) : Nat → Int
  | 0 => 0
  | k + 1 => liN P k + (if P k = true then 1 else 0)
theorem liN_bd (P : Nat → Bool) : ∀ k : Nat, 0 ≤ liN P k ∧ liN P k ≤ k
  | 0 => by simp [liN]
  | k + 1 => by have := liN_bd P k; unfold liN; split <;> omega

/-- Are numbers those of a lamp? -/
def leB (lat n m d : Int) : Bool := moB lat n m && inB d 100 10000
/-- The width of a direction and the error of a lamp. -/
def laM (v : V3) (d : Int) : Int := ceM (mx3 (v.x.hi - v.x.lo) (v.y.hi - v.y.lo) (v.z.hi - v.z.lo) * d) 1000000 + 1

end Go.Proofs.YteooegliepbcnaaGreat
