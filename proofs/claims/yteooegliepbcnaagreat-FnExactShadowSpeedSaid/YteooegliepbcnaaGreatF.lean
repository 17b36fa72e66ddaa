/- Searches of walls: what the program's functions and the reference's return. -/
import Derived.Test.YteooegliepbcnaaGreatD
import Derived.Test.YteooegliepbcnaaGreatS3
namespace Go.Proofs.YteooegliepbcnaaGreat
set_option linter.unusedVariables false
set_option linter.unusedSimpArgs false
set_option maxRecDepth 10000
open Go.RowKit

def waB (a s : Int) : Bool := inB a 0 1295999 && inB s (-324000) 324000
theorem waB_t {a s : Int} (h : waB a s = true) : 0 ≤ a ∧ a ≤ 1295999 ∧ -324000 ≤ s ∧ s ≤ 324000 := by
  unfold waB at h
  rw [Bool.and_eq_true] at h
  have h1 := inB_iff.1 h.1
  have h2 := inB_iff.1 h.2
  omega
def ctM (fa fs ta ts st : Int) : Int := ((ta - fa) / st + 1) * ((ts - fs) / st + 1)
def seB (fa fs ta ts st : Int) : Bool := waB fa fs && (waB ta ts && (inB st 60 324000 && (decide (fa ≤ ta) && (decide (fs ≤ ts) && decide (ctM fa fs ta ts st ≤ 150)))))
theorem ctM_bd {fa fs ta ts st : Int} (h1 : 0 ≤ ta - fa) (h2 : ta - fa ≤ 1295999) (h3 : 0 ≤ ts - fs) (h4 : ts - fs ≤ 648000) (h5 : 60 ≤ st) :
    0 ≤ (ta - fa) / st ∧ (ta - fa) / st ≤ 1295999 ∧ 0 ≤ (ts - fs) / st ∧ (ts - fs) / st ≤ 648000 ∧ 0 ≤ ((ta - fa) / st + 1) * ((ts - fs) / st + 1) ∧ ((ta - fa) / st + 1) * ((ts - fs) / st + 1) ≤ 839809296000 := by
  have a1 : 0 ≤ (ta - fa) / st := Int.ediv_nonneg h1 (by omega)
  have a2 : (ta - fa) / st ≤ ta - fa := Int.ediv_le_self _ h1
  have b1 : 0 ≤ (ts - fs) / st := Int.ediv_nonneg h3 (by omega)
  have b2 : (ts - fs) / st ≤ ts - fs := Int.ediv_le_self _ h3
  refine ⟨a1, by omega, b1, by omega, Int.mul_nonneg (by omega) (by omega), ?_⟩
  have := Int.mul_le_mul (show (ta - fa) / st + 1 ≤ 1296000 by omega) (show (ts - fs) / st + 1 ≤ 648001 by omega) (by omega) (by omega)
  omega


set_option maxHeartbeats 400000 in
theorem IsWall_any (a s : Int) (w : World) :
    Calls Tryz.prog 142 #[(.agg #[.int .i64 (a), .int .i64 (s)])] w fun e w' => e = .returned (.bool (waB a s)) ∧ Below w.heap.size w w' := by
  have r := Lib.hid (show waB a s = (inB a 0 1295999 && inB s (-324000) 324000) from rfl)
  cases p : inB a 0 1295999
  · go_enter Tryz.func142, Tryz.ntmps142
    go_wp2_with (go_at_call 61; refine (in_any _ _ _ _).mono ?_; rintro e w' ⟨rfl, rfl⟩)
    go_ret
    exact ⟨ret_bool (by rw [r.out, p]; rfl), by (repeat' (first | with_reducible exact Below.refl _ _ | with_reducible assumption | with_reducible refine Below.setCell ?_ ?_ _ | with_reducible refine Below.drew ?_ | with_reducible refine below_drewN ?_ _ | with_reducible refine Below.alloc ?_ ?_ _ | with_reducible refine below_step (by assumption) ?_ ?_ | omega | exact Below.size (by assumption) | (simp; done) | (simp; omega)))⟩
  · go_enter Tryz.func142, Tryz.ntmps142
    go_wp2_with (go_at_call 61; refine (in_any _ _ _ _).mono ?_; rintro e w' ⟨rfl, rfl⟩)
    go_ret
    exact ⟨ret_bool (by rw [r.out, p]; rfl), by (repeat' (first | with_reducible exact Below.refl _ _ | with_reducible assumption | with_reducible refine Below.setCell ?_ ?_ _ | with_reducible refine Below.drew ?_ | with_reducible refine below_drewN ?_ _ | with_reducible refine Below.alloc ?_ ?_ _ | with_reducible refine below_step (by assumption) ?_ ?_ | omega | exact Below.size (by assumption) | (simp; done) | (simp; omega)))⟩

set_option maxHeartbeats 400000 in
theorem sIsWall_any (a s : Int) (w : World) :
    Calls Tryz.prog 106 #[(.agg #[.int .i64 (a), .int .i64 (s)])] w fun e w' => e = .returned (.bool (waB a s)) ∧ Below w.heap.size w w' := by
  have r := Lib.hid (show waB a s = (inB a 0 1295999 && inB s (-324000) 324000) from rfl)
  cases p : inB a 0 1295999
  · go_enter Tryz.func106, Tryz.ntmps106
    go_wp2_with (first | (go_at_call 54; refine (sIn_any _ _ _ _).mono ?_; rintro e w' ⟨rfl, rfl⟩) | (go_at_call 105; refine (sLatitude_any _ _).mono ?_; rintro e w' ⟨rfl, rfl⟩))
    go_ret
    exact ⟨ret_bool (by rw [r.out, p]; rfl), by (repeat' (first | with_reducible exact Below.refl _ _ | with_reducible assumption | with_reducible refine Below.setCell ?_ ?_ _ | with_reducible refine Below.drew ?_ | with_reducible refine below_drewN ?_ _ | with_reducible refine Below.alloc ?_ ?_ _ | with_reducible refine below_step (by assumption) ?_ ?_ | omega | exact Below.size (by assumption) | (simp; done) | (simp; omega)))⟩
  · go_enter Tryz.func106, Tryz.ntmps106
    go_wp2_with (first | (go_at_call 54; refine (sIn_any _ _ _ _).mono ?_; rintro e w' ⟨rfl, rfl⟩) | (go_at_call 105; refine (sLatitude_any _ _).mono ?_; rintro e w' ⟨rfl, rfl⟩))
    go_ret
    exact ⟨ret_bool (by rw [r.out, p]; rfl), by (repeat' (first | with_reducible exact Below.refl _ _ | with_reducible assumption | with_reducible refine Below.setCell ?_ ?_ _ | with_reducible refine Below.drew ?_ | with_reducible refine below_drewN ?_ _ | with_reducible refine Below.alloc ?_ ?_ _ | with_reducible refine below_step (by assumption) ?_ ?_ | omega | exact Below.size (by assumption) | (simp; done) | (simp; omega)))⟩


end Go.Proofs.YteooegliepbcnaaGreat
