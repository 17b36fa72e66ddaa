/- What the program's functions on the calendar, the sun and the sky return. -/
import Derived.Test.YteooegliepbcnaaGreatB
import Derived.Test.YteooegliepbcnaaGreatMath2
namespace Go.Proofs.YteooegliepbcnaaGreat
set_option linter.unusedVariables false
set_option linter.unusedSimpArgs false
set_option maxRecDepth 10000
open Go.RowKit


set_option maxHeartbeats 400000 in
theorem nearest_pos (a b : Int) (w : World) (hb : 0 < b) (h1 : -4000000000000000000 ≤ a) (h2 : a ≤ 4000000000000000000) (h3 : b ≤ 2000000000000000000) :
    Calls Tryz.prog 152 #[.int .i64 a, .int .i64 b] w fun e w' => e = .returned (.int .i64 (neM a b)) ∧ w = w' := by
  have e := Int.mul_ediv_add_emod a b
  rw [Int.mul_comm] at e
  have k1 := Int.emod_nonneg a (show b ≠ 0 by omega)
  have k2 := Int.emod_lt_of_pos a hb
  have e1 : -9223372036854775808 ≤ a / b * b ∧ a / b * b ≤ 9223372036854775807 := by omega
  have e2 : 0 ≤ a - a / b * b ∧ a - a / b * b < b := by omega
  have e3 := div_abs (a := a) (A := 4000000000000000000) b hb h1 h2
  have hb' : decide (b < 0) = false := by simp; omega
  have hn := neM_eq a b hb
  have HN := Lib.hid hn; clear hn e
  by_cases t : a - a / b * b ≥ b - (a - a / b * b)
  all_goals
    go_enter Tryz.func152, Tryz.ntmps152
    go_wp2_with (go_at_call 103; refine (floor_pos _ _ _ hb (by omega) (by omega) (by omega)).mono ?_; rintro e w' ⟨rfl, rfl⟩)
    go_ret
    exact ⟨ret_int (by rw [HN.out]; first | rw [if_pos (by omega)] | rw [if_neg (by omega)]), rfl⟩

set_option maxHeartbeats 400000 in
theorem daysInMonth_any (y m : Int) (w : World) (h1 : 0 ≤ y) (h2 : y ≤ 10000) :
    Calls Tryz.prog 144 #[.int .i64 y, .int .i64 m] w fun e w' => e = .returned (.int .i64 (diM y m)) ∧ w = w' := by
  have hd : diM y m = if m = 4 ∨ m = 6 ∨ m = 9 ∨ m = 11 then 30 else if m = 2 then (if y % 4 = 0 then 29 else 28) else 31 := rfl
  have HD := Lib.hid hd; clear hd
  go_enter Tryz.func144, Tryz.ntmps144
  go_wp2
  all_goals go_ret
  all_goals exact ⟨ret_int (by rw [HD.out]; (repeat' split) <;> first | rfl | omega | simp_all), rfl⟩

set_option maxHeartbeats 1000000 in
theorem dayNumber_any (y m d : Int) (w : World) (h1 : 1901 ≤ y) (h2 : y ≤ 2100) (h3 : 1 ≤ m) (h4 : m ≤ 13) (h5 : 0 ≤ d) (h6 : d ≤ 40) :
    Calls Tryz.prog 102 #[(.agg #[.int .i64 (y), .int .i64 (m), .int .i64 (d)])] w fun e w' => e = .returned (.int .i64 (dnM y m d)) ∧ Below w.heap.size w w' := by
  go_enter Tryz.func102, Tryz.ntmps102
  go_wp2
  go_loopw [4, 5] (fun t k wr => ∃ i : Nat, k = .int .i64 ((i : Int) + 1) ∧ (i : Int) + 1 ≤ m ∧ t = .int .i64 (-36159 + 365 * (y - 1901) + (y - 1901) / 4 + d - 1 + cuM y i) ∧ wr = w.alloc (.cells #[.int .i64 y, .int .i64 m, .int .i64 d] 124)) (fun _ k _ => (m - intOf k).toNat)
  case atStart => exact ⟨0, rfl, by omega, by simp [cuM], rfl⟩
  case round =>
    obtain ⟨i, rfl, hi, rfl, rfl⟩ := hrel
    have hc := cuM_bd y i
    have hd := diM_bd y (i + 1)
    by_cases ht : (i : Int) + 1 < m
    · go_wp2_with (go_at_call 144; refine (daysInMonth_any _ _ _ (by omega) (by omega)).mono ?_; rintro e w' ⟨rfl, rfl⟩)
      go_roundw
      case rel =>
        refine ⟨i + 1, ?_⟩
        simp [cuM]; omega
      case measure => simp [intOf]; omega
    · have hm : m = (i : Int) + 1 := by omega
      have HM := Lib.hid hm; clear hm
      go_wp2
      go_ret
      exact ⟨ret_int (by unfold dnM; rw [show (m - 1).toNat = i from by have := HM.out; omega]), by (repeat' (first | with_reducible exact Below.refl _ _ | with_reducible assumption | with_reducible refine Below.setCell ?_ ?_ _ | with_reducible refine Below.drew ?_ | with_reducible refine below_drewN ?_ _ | with_reducible refine Below.alloc ?_ ?_ _ | with_reducible refine below_step (by assumption) ?_ ?_ | omega | exact Below.size (by assumption) | (simp; done) | (simp; omega)))⟩


end Go.Proofs.YteooegliepbcnaaGreat
