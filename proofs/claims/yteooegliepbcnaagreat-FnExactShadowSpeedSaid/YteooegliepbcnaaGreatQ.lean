/- What the program's functions on quotients and places return. -/
import Derived.Test.YteooegliepbcnaaGreatDir
import Derived.Test.YteooegliepbcnaaGreatD
import Derived.Test.YteooegliepbcnaaGreatF
import Derived.Test.YteooegliepbcnaaGreatMath4
import Derived.LoopN
import Derived.Test.YteooegliepbcnaaGreatApp
namespace Go.Proofs.YteooegliepbcnaaGreat
set_option linter.unusedVariables false
set_option linter.unusedSimpArgs false
set_option maxRecDepth 10000
open Go.RowKit


set_option maxHeartbeats 400000 in
theorem has_any (a b x : Int) (w : World) :
    Calls Tryz.prog 202 #[(.agg #[.int .i64 (a), .int .i64 (b)]), .int .i64 x] w fun e w' => e = .returned (.bool (inB x a b)) ∧ Below w.heap.size w w' := by
  go_enter Tryz.func202, Tryz.ntmps202
  go_wp2_with (go_at_call 61; refine (in_any _ _ _ _).mono ?_; rintro e w' ⟨rfl, rfl⟩)
  go_ret
  exact ⟨rfl, by (repeat' (first | with_reducible exact Below.refl _ _ | with_reducible assumption | with_reducible refine Below.setCell ?_ ?_ _ | with_reducible refine Below.drew ?_ | with_reducible refine below_drewN ?_ _ | with_reducible refine Below.alloc ?_ ?_ _ | with_reducible refine below_step (by assumption) ?_ ?_ | omega | exact Below.size (by assumption) | (simp; done) | (simp; omega)))⟩

set_option maxHeartbeats 1000000 in
theorem factors_ok (a b c d : Int) (w : World) (p1 : ivB a b = true) (p2 : ivB c d = true) (p3 : (inB a (-1000000000) 1000000000 && inB b (-1000000000) 1000000000) = true) (p4 : (inB c (-1000000000) 1000000000 && inB d (-1000000000) 1000000000) = true) :
    Calls Tryz.prog 201 #[(.agg #[.int .i64 (a), .int .i64 (b)]), (.agg #[.int .i64 (c), .int .i64 (d)])] w fun e w' => e = .returned (.int .i64 0) ∧ Below w.heap.size w w' := by
  have i1 := fun w => IsInterval_any a b w
  have i2 := fun w => IsInterval_any c d w
  have j1 := fun w => within_any a b 1000000000 w (by omega) (by omega)
  have j2 := fun w => within_any c d 1000000000 w (by omega) (by omega)
  rw [p1] at i1
  rw [p2] at i2
  rw [p3] at j1
  rw [p4] at j2
  have I1 := Lib.hid i1; have I2 := Lib.hid i2; have J1 := Lib.hid j1; have J2 := Lib.hid j2
  clear i1 i2 j1 j2 p1 p2 p3 p4
  go_enter Tryz.func201, Tryz.ntmps201
  go_wp2_with fail
  refine (I1.out _).mono ?_
  rintro _ w1 ⟨rfl, b_w1⟩
  obtain ⟨c_w1, f_w1, z_w1⟩ := bfacts b_w1 (by first | (simp; rfl) | rfl)
  have y0_w1 : w.heap.size < w1.heap.size := (by omega)
  have y1_w1 : w.heap.size + 1 < w1.heap.size := (by omega)
  have k0_0_w1 : w1.cell? ⟨w.heap.size, 0, none⟩ = some (.int .i64 (a)) := (by first | exact (c_w1 _ _ (by omega)).trans (by go_simp) | go_simp)
  have l0_0_w1 : w1.frozen? ⟨w.heap.size, 0, none⟩ = false := (by first | exact (f_w1 _ _ (by omega)).trans (by go_simp) | go_simp)
  have k0_1_w1 : w1.cell? ⟨w.heap.size, 1, none⟩ = some (.int .i64 (b)) := (by first | exact (c_w1 _ _ (by omega)).trans (by go_simp) | go_simp)
  have l0_1_w1 : w1.frozen? ⟨w.heap.size, 1, none⟩ = false := (by first | exact (f_w1 _ _ (by omega)).trans (by go_simp) | go_simp)
  have k1_0_w1 : w1.cell? ⟨w.heap.size + 1, 0, none⟩ = some (.int .i64 (c)) := (by first | exact (c_w1 _ _ (by omega)).trans (by go_simp) | go_simp)
  have l1_0_w1 : w1.frozen? ⟨w.heap.size + 1, 0, none⟩ = false := (by first | exact (f_w1 _ _ (by omega)).trans (by go_simp) | go_simp)
  have k1_1_w1 : w1.cell? ⟨w.heap.size + 1, 1, none⟩ = some (.int .i64 (d)) := (by first | exact (c_w1 _ _ (by omega)).trans (by go_simp) | go_simp)
  have l1_1_w1 : w1.frozen? ⟨w.heap.size + 1, 1, none⟩ = false := (by first | exact (f_w1 _ _ (by omega)).trans (by go_simp) | go_simp)
  clear c_w1 f_w1
  go_wp2_with fail
  refine (I2.out _).mono ?_
  rintro _ w2 ⟨rfl, b_w2⟩
  obtain ⟨c_w2, f_w2, z_w2⟩ := bfacts b_w2 (by first | (simp; rfl) | rfl)
  have y0_w2 : w.heap.size < w2.heap.size := (by omega)
  have y1_w2 : w.heap.size + 1 < w2.heap.size := (by omega)
  have k0_0_w2 : w2.cell? ⟨w.heap.size, 0, none⟩ = some (.int .i64 (a)) := (by first | exact (c_w2 _ _ (by omega)).trans (by go_simp) | go_simp)
  have l0_0_w2 : w2.frozen? ⟨w.heap.size, 0, none⟩ = false := (by first | exact (f_w2 _ _ (by omega)).trans (by go_simp) | go_simp)
  have k0_1_w2 : w2.cell? ⟨w.heap.size, 1, none⟩ = some (.int .i64 (b)) := (by first | exact (c_w2 _ _ (by omega)).trans (by go_simp) | go_simp)
  have l0_1_w2 : w2.frozen? ⟨w.heap.size, 1, none⟩ = false := (by first | exact (f_w2 _ _ (by omega)).trans (by go_simp) | go_simp)
  have k1_0_w2 : w2.cell? ⟨w.heap.size + 1, 0, none⟩ = some (.int .i64 (c)) := (by first | exact (c_w2 _ _ (by omega)).trans (by go_simp) | go_simp)
  have l1_0_w2 : w2.frozen? ⟨w.heap.size + 1, 0, none⟩ = false := (by first | exact (f_w2 _ _ (by omega)).trans (by go_simp) | go_simp)
  have k1_1_w2 : w2.cell? ⟨w.heap.size + 1, 1, none⟩ = some (.int .i64 (d)) := (by first | exact (c_w2 _ _ (by omega)).trans (by go_simp) | go_simp)
  have l1_1_w2 : w2.frozen? ⟨w.heap.size + 1, 1, none⟩ = false := (by first | exact (f_w2 _ _ (by omega)).trans (by go_simp) | go_simp)
  clear c_w2 f_w2
  go_wp2_with fail
  refine (J1.out _).mono ?_
  rintro _ w3 ⟨rfl, b_w3⟩
  obtain ⟨c_w3, f_w3, z_w3⟩ := bfacts b_w3 (by first | (simp; rfl) | rfl)
  have y0_w3 : w.heap.size < w3.heap.size := (by omega)
  have y1_w3 : w.heap.size + 1 < w3.heap.size := (by omega)
  have k0_0_w3 : w3.cell? ⟨w.heap.size, 0, none⟩ = some (.int .i64 (a)) := (by first | exact (c_w3 _ _ (by omega)).trans (by go_simp) | go_simp)
  have l0_0_w3 : w3.frozen? ⟨w.heap.size, 0, none⟩ = false := (by first | exact (f_w3 _ _ (by omega)).trans (by go_simp) | go_simp)
  have k0_1_w3 : w3.cell? ⟨w.heap.size, 1, none⟩ = some (.int .i64 (b)) := (by first | exact (c_w3 _ _ (by omega)).trans (by go_simp) | go_simp)
  have l0_1_w3 : w3.frozen? ⟨w.heap.size, 1, none⟩ = false := (by first | exact (f_w3 _ _ (by omega)).trans (by go_simp) | go_simp)
  have k1_0_w3 : w3.cell? ⟨w.heap.size + 1, 0, none⟩ = some (.int .i64 (c)) := (by first | exact (c_w3 _ _ (by omega)).trans (by go_simp) | go_simp)
  have l1_0_w3 : w3.frozen? ⟨w.heap.size + 1, 0, none⟩ = false := (by first | exact (f_w3 _ _ (by omega)).trans (by go_simp) | go_simp)
  have k1_1_w3 : w3.cell? ⟨w.heap.size + 1, 1, none⟩ = some (.int .i64 (d)) := (by first | exact (c_w3 _ _ (by omega)).trans (by go_simp) | go_simp)
  have l1_1_w3 : w3.frozen? ⟨w.heap.size + 1, 1, none⟩ = false := (by first | exact (f_w3 _ _ (by omega)).trans (by go_simp) | go_simp)
  clear c_w3 f_w3
  go_wp2_with fail
  refine (J2.out _).mono ?_
  rintro _ w4 ⟨rfl, b_w4⟩
  obtain ⟨c_w4, f_w4, z_w4⟩ := bfacts b_w4 (by first | (simp; rfl) | rfl)
  have y0_w4 : w.heap.size < w4.heap.size := (by omega)
  have y1_w4 : w.heap.size + 1 < w4.heap.size := (by omega)
  have k0_0_w4 : w4.cell? ⟨w.heap.size, 0, none⟩ = some (.int .i64 (a)) := (by first | exact (c_w4 _ _ (by omega)).trans (by go_simp) | go_simp)
  have l0_0_w4 : w4.frozen? ⟨w.heap.size, 0, none⟩ = false := (by first | exact (f_w4 _ _ (by omega)).trans (by go_simp) | go_simp)
  have k0_1_w4 : w4.cell? ⟨w.heap.size, 1, none⟩ = some (.int .i64 (b)) := (by first | exact (c_w4 _ _ (by omega)).trans (by go_simp) | go_simp)
  have l0_1_w4 : w4.frozen? ⟨w.heap.size, 1, none⟩ = false := (by first | exact (f_w4 _ _ (by omega)).trans (by go_simp) | go_simp)
  have k1_0_w4 : w4.cell? ⟨w.heap.size + 1, 0, none⟩ = some (.int .i64 (c)) := (by first | exact (c_w4 _ _ (by omega)).trans (by go_simp) | go_simp)
  have l1_0_w4 : w4.frozen? ⟨w.heap.size + 1, 0, none⟩ = false := (by first | exact (f_w4 _ _ (by omega)).trans (by go_simp) | go_simp)
  have k1_1_w4 : w4.cell? ⟨w.heap.size + 1, 1, none⟩ = some (.int .i64 (d)) := (by first | exact (c_w4 _ _ (by omega)).trans (by go_simp) | go_simp)
  have l1_1_w4 : w4.frozen? ⟨w.heap.size + 1, 1, none⟩ = false := (by first | exact (f_w4 _ _ (by omega)).trans (by go_simp) | go_simp)
  clear c_w4 f_w4
  go_wp2
  go_ret
  exact ⟨rfl, by (repeat' (first | with_reducible exact Below.refl _ _ | with_reducible refine Below.setCell ?_ ?_ _ | with_reducible refine Below.drew ?_ | with_reducible refine below_drewN ?_ _ | with_reducible refine Below.alloc ?_ ?_ _ | with_reducible refine below_step b_w4 ?_ ?_ | with_reducible refine below_step b_w3 ?_ ?_ | with_reducible refine below_step b_w2 ?_ ?_ | with_reducible refine below_step b_w1 ?_ ?_ | omega | (simp; done) | (simp; omega)))⟩

set_option maxHeartbeats 1000000 in
theorem told_any (a b : Int) (w : World) (k : a ≤ b) :
    Calls Tryz.prog 203 #[(.agg #[.int .i64 (a), .int .i64 (b)])] w fun e w' => e = .returned (.tuple #[(.agg #[.int .i64 ((toM ⟨a, b⟩).lo), .int .i64 ((toM ⟨a, b⟩).hi)]), .int .i64 (toM ⟨a, b⟩).code]) ∧ Below w.heap.size w w' := by
  rcases inB_cases a (-1000000000000) 1000000000000 with ⟨p1, p2, p⟩ | ⟨p1, p⟩
  · rcases inB_cases b (-1000000000000) 1000000000000 with ⟨q1, q2, q⟩ | ⟨q1, q⟩
    · have r := toM_yes (q := ⟨a, b⟩) (show ivB a b = true from ivB_t p1 k q2)
      have R := Lib.hid r; clear r
      go_enter Tryz.func203, Tryz.ntmps203
      go_wp2_with (go_at_call 174; refine (isValue_any _ _).mono ?_; rintro e w' ⟨rfl, rfl⟩)
      exact bodyPost_ret (v := .tuple #[(.agg #[.int .i64 ((toM ⟨a, b⟩).lo), .int .i64 ((toM ⟨a, b⟩).hi)]), .int .i64 (toM ⟨a, b⟩).code]) (by rw [R.out]; simp [results, Tryz.results203, go_sem, *]) rfl ⟨rfl, by (repeat' (first | with_reducible exact Below.refl _ _ | with_reducible assumption | with_reducible refine Below.setCell ?_ ?_ _ | with_reducible refine Below.drew ?_ | with_reducible refine below_drewN ?_ _ | with_reducible refine Below.alloc ?_ ?_ _ | with_reducible refine below_step (by assumption) ?_ ?_ | omega | exact Below.size (by assumption) | (simp; done) | (simp; omega)))⟩
    · have r := toM_no (q := ⟨a, b⟩) (show ivB a b = false from ivB_f (by omega))
      have R := Lib.hid r; clear r q1
      go_enter Tryz.func203, Tryz.ntmps203
      go_wp2_with (go_at_call 174; refine (isValue_any _ _).mono ?_; rintro e w' ⟨rfl, rfl⟩)
      exact bodyPost_ret (v := .tuple #[(.agg #[.int .i64 ((toM ⟨a, b⟩).lo), .int .i64 ((toM ⟨a, b⟩).hi)]), .int .i64 (toM ⟨a, b⟩).code]) (by rw [R.out]; simp [results, Tryz.results203, go_sem, *]) rfl ⟨rfl, by (repeat' (first | with_reducible exact Below.refl _ _ | with_reducible assumption | with_reducible refine Below.setCell ?_ ?_ _ | with_reducible refine Below.drew ?_ | with_reducible refine below_drewN ?_ _ | with_reducible refine Below.alloc ?_ ?_ _ | with_reducible refine below_step (by assumption) ?_ ?_ | omega | exact Below.size (by assumption) | (simp; done) | (simp; omega)))⟩
  · have hx : ivB a b = false := by
      rcases p1 with h | h
      · exact ivB_f (Or.inl h)
      · exact ivB_f (Or.inr (Or.inr (Int.lt_of_lt_of_le h k)))
    have r := toM_no (q := ⟨a, b⟩) hx
    clear hx
    have R := Lib.hid r; clear r p1
    go_enter Tryz.func203, Tryz.ntmps203
    go_wp2_with (go_at_call 174; refine (isValue_any _ _).mono ?_; rintro e w' ⟨rfl, rfl⟩)
    exact bodyPost_ret (v := .tuple #[(.agg #[.int .i64 ((toM ⟨a, b⟩).lo), .int .i64 ((toM ⟨a, b⟩).hi)]), .int .i64 (toM ⟨a, b⟩).code]) (by rw [R.out]; simp [results, Tryz.results203, go_sem, *]) rfl ⟨rfl, by (repeat' (first | with_reducible exact Below.refl _ _ | with_reducible assumption | with_reducible refine Below.setCell ?_ ?_ _ | with_reducible refine Below.drew ?_ | with_reducible refine below_drewN ?_ _ | with_reducible refine Below.alloc ?_ ?_ _ | with_reducible refine below_step (by assumption) ?_ ?_ | omega | exact Below.size (by assumption) | (simp; done) | (simp; omega)))⟩

set_option maxHeartbeats 8000000 in
theorem divide_walk (a b c d : Int) (w : World) (a0 : -20000000 ≤ a) (a1 : a ≤ 20000000) (b0 : -20000000 ≤ b) (b1 : b ≤ 20000000) (ab : a ≤ b) (c0 : 0 < c) (cd : c ≤ d) (d1 : d ≤ 20000000)
    (d0 d1' d2 d3 h0 h1 h2 h3 : Iv) (r : R3)
    (e0 : a * 1000000 / c = d0.lo) (e0' : -(-(a * 1000000) / c) = d0.hi) (e1 : a * 1000000 / d = d1'.lo) (e1' : -(-(a * 1000000) / d) = d1'.hi)
    (e2 : b * 1000000 / c = d2.lo) (e2' : -(-(b * 1000000) / c) = d2.hi) (e3 : b * 1000000 / d = d3.lo) (e3' : -(-(b * 1000000) / d) = d3.hi)
    (f0 : huI ⟨d0.lo, d0.hi⟩ ⟨d0.lo, d0.hi⟩ = h0) (f1 : huI ⟨h0.lo, h0.hi⟩ ⟨d1'.lo, d1'.hi⟩ = h1) (f2 : huI ⟨h1.lo, h1.hi⟩ ⟨d2.lo, d2.hi⟩ = h2) (f3 : huI ⟨h2.lo, h2.hi⟩ ⟨d3.lo, d3.hi⟩ = h3)
    (g3 : toM ⟨h3.lo, h3.hi⟩ = r) (k3 : h3.lo ≤ h3.hi) :
    Calls Tryz.prog 197 #[(.agg #[.int .i64 (a), .int .i64 (b)]), (.agg #[.int .i64 (c), .int .i64 (d)])] w fun e w' => e = .returned (.tuple #[(.agg #[.int .i64 (r.lo), .int .i64 (r.hi)]), .int .i64 r.code]) ∧ Below w.heap.size w w' := by
  have fo := fun w => factors_ok a b c d w (ivB_t (by omega) ab (by omega)) (ivB_t (by omega) cd (by omega)) (by rw [inB_t (by omega) (by omega), inB_t (by omega) (by omega)]; rfl) (by rw [inB_t (by omega) (by omega), inB_t (by omega) (by omega)]; rfl)
  have ha := fun w => has_any c d 0 w
  rw [inB_f (show (0 : Int) < c ∨ d < 0 by omega)] at ha
  have to := fun w => told_any h3.lo h3.hi w k3
  rw [g3] at to
  have FO := Lib.hid fo; have HA := Lib.hid ha; have TO := Lib.hid to; have K3 := Lib.hid k3; have G3 := Lib.hid g3
  clear fo ha to k3 g3
  have dpos : 0 < d := by omega
  go_enter Tryz.func197, Tryz.ntmps197
  go_wp2_with fail
  refine (FO.out _).mono ?_
  rintro _ w1 ⟨rfl, b_w1⟩
  obtain ⟨c_w1, f_w1, z_w1⟩ := bfacts b_w1 (by first | (simp; rfl) | rfl)
  have y0_w1 : w.heap.size < w1.heap.size := (by omega)
  have y1_w1 : w.heap.size + 1 < w1.heap.size := (by omega)
  have y2_w1 : w.heap.size + 1 + 1 < w1.heap.size := (by omega)
  have k0_0_w1 : w1.cell? ⟨w.heap.size, 0, none⟩ = some (.int .i64 (a)) := (by first | exact (c_w1 _ _ (by omega)).trans (by go_simp) | go_simp)
  have l0_0_w1 : w1.frozen? ⟨w.heap.size, 0, none⟩ = false := (by first | exact (f_w1 _ _ (by omega)).trans (by go_simp) | go_simp)
  have k0_1_w1 : w1.cell? ⟨w.heap.size, 1, none⟩ = some (.int .i64 (b)) := (by first | exact (c_w1 _ _ (by omega)).trans (by go_simp) | go_simp)
  have l0_1_w1 : w1.frozen? ⟨w.heap.size, 1, none⟩ = false := (by first | exact (f_w1 _ _ (by omega)).trans (by go_simp) | go_simp)
  have k1_0_w1 : w1.cell? ⟨w.heap.size + 1, 0, none⟩ = some (.int .i64 (c)) := (by first | exact (c_w1 _ _ (by omega)).trans (by go_simp) | go_simp)
  have l1_0_w1 : w1.frozen? ⟨w.heap.size + 1, 0, none⟩ = false := (by first | exact (f_w1 _ _ (by omega)).trans (by go_simp) | go_simp)
  have k1_1_w1 : w1.cell? ⟨w.heap.size + 1, 1, none⟩ = some (.int .i64 (d)) := (by first | exact (c_w1 _ _ (by omega)).trans (by go_simp) | go_simp)
  have l1_1_w1 : w1.frozen? ⟨w.heap.size + 1, 1, none⟩ = false := (by first | exact (f_w1 _ _ (by omega)).trans (by go_simp) | go_simp)
  have k2_0_w1 : w1.cell? ⟨w.heap.size + 1 + 1, 0, none⟩ = some (.int .i64 (0)) := (by first | exact (c_w1 _ _ (by omega)).trans (by go_simp) | go_simp)
  have l2_0_w1 : w1.frozen? ⟨w.heap.size + 1 + 1, 0, none⟩ = false := (by first | exact (f_w1 _ _ (by omega)).trans (by go_simp) | go_simp)
  have k2_1_w1 : w1.cell? ⟨w.heap.size + 1 + 1, 1, none⟩ = some (.int .i64 (0)) := (by first | exact (c_w1 _ _ (by omega)).trans (by go_simp) | go_simp)
  have l2_1_w1 : w1.frozen? ⟨w.heap.size + 1 + 1, 1, none⟩ = false := (by first | exact (f_w1 _ _ (by omega)).trans (by go_simp) | go_simp)
  clear c_w1 f_w1
  go_wp2_with fail
  refine (HA.out _).mono ?_
  rintro _ w2 ⟨rfl, b_w2⟩
  obtain ⟨c_w2, f_w2, z_w2⟩ := bfacts b_w2 (by first | (simp; rfl) | rfl)
  have y0_w2 : w.heap.size < w2.heap.size := (by omega)
  have y1_w2 : w.heap.size + 1 < w2.heap.size := (by omega)
  have y2_w2 : w.heap.size + 1 + 1 < w2.heap.size := (by omega)
  have k0_0_w2 : w2.cell? ⟨w.heap.size, 0, none⟩ = some (.int .i64 (a)) := (by first | exact (c_w2 _ _ (by omega)).trans (by go_simp) | go_simp)
  have l0_0_w2 : w2.frozen? ⟨w.heap.size, 0, none⟩ = false := (by first | exact (f_w2 _ _ (by omega)).trans (by go_simp) | go_simp)
  have k0_1_w2 : w2.cell? ⟨w.heap.size, 1, none⟩ = some (.int .i64 (b)) := (by first | exact (c_w2 _ _ (by omega)).trans (by go_simp) | go_simp)
  have l0_1_w2 : w2.frozen? ⟨w.heap.size, 1, none⟩ = false := (by first | exact (f_w2 _ _ (by omega)).trans (by go_simp) | go_simp)
  have k1_0_w2 : w2.cell? ⟨w.heap.size + 1, 0, none⟩ = some (.int .i64 (c)) := (by first | exact (c_w2 _ _ (by omega)).trans (by go_simp) | go_simp)
  have l1_0_w2 : w2.frozen? ⟨w.heap.size + 1, 0, none⟩ = false := (by first | exact (f_w2 _ _ (by omega)).trans (by go_simp) | go_simp)
  have k1_1_w2 : w2.cell? ⟨w.heap.size + 1, 1, none⟩ = some (.int .i64 (d)) := (by first | exact (c_w2 _ _ (by omega)).trans (by go_simp) | go_simp)
  have l1_1_w2 : w2.frozen? ⟨w.heap.size + 1, 1, none⟩ = false := (by first | exact (f_w2 _ _ (by omega)).trans (by go_simp) | go_simp)
  have k2_0_w2 : w2.cell? ⟨w.heap.size + 1 + 1, 0, none⟩ = some (.int .i64 (0)) := (by first | exact (c_w2 _ _ (by omega)).trans (by go_simp) | go_simp)
  have l2_0_w2 : w2.frozen? ⟨w.heap.size + 1 + 1, 0, none⟩ = false := (by first | exact (f_w2 _ _ (by omega)).trans (by go_simp) | go_simp)
  have k2_1_w2 : w2.cell? ⟨w.heap.size + 1 + 1, 1, none⟩ = some (.int .i64 (0)) := (by first | exact (c_w2 _ _ (by omega)).trans (by go_simp) | go_simp)
  have l2_1_w2 : w2.frozen? ⟨w.heap.size + 1 + 1, 1, none⟩ = false := (by first | exact (f_w2 _ _ (by omega)).trans (by go_simp) | go_simp)
  clear c_w2 f_w2
  have q1 : w.heap.size < w2.heap.size + 2 := by omega
  have q2 : w.heap.size < w2.heap.size + 3 := by omega
  have q3 : w.heap.size < w2.heap.size + 4 := by omega
  go_wp2_with fail
  refine wp_loop_rounds 3 ?_
  rw [rounds_succ]
  go_wp2_with fail
  refine wp_loop_rounds 3 ?_
  rw [rounds_succ]
  go_wp2_with (first | (go_at_call 103; refine (floor_pos _ _ _ (by omega) (by omega) (by omega) (by omega)).mono ?_; rintro e w' ⟨rfl, rfl⟩) | (go_at_call 149; refine (ceil_pos _ _ _ (by omega) (by omega) (by omega) (by omega)).mono ?_; rintro e w' ⟨rfl, rfl⟩))
  refine (hull_any d0.lo d0.hi d0.lo d0.hi _).mono ?_
  rintro _ w3 ⟨rfl, b_w3⟩
  obtain ⟨c_w3, f_w3, z_w3⟩ := bfacts b_w3 (by first | (simp; rfl) | rfl)
  have y0_w3 : w.heap.size < w3.heap.size := (by omega)
  have y1_w3 : w.heap.size + 1 < w3.heap.size := (by omega)
  have y2_w3 : w.heap.size + 1 + 1 < w3.heap.size := (by omega)
  have y3_w3 : w2.heap.size < w3.heap.size := (by omega)
  have y4_w3 : w2.heap.size + 1 < w3.heap.size := (by omega)
  have y5_w3 : w2.heap.size + 1 + 1 < w3.heap.size := (by omega)
  have k0_0_w3 : w3.cell? ⟨w.heap.size, 0, none⟩ = some (.int .i64 (a)) := (by first | exact (c_w3 _ _ (by omega)).trans (by go_simp) | go_simp)
  have l0_0_w3 : w3.frozen? ⟨w.heap.size, 0, none⟩ = false := (by first | exact (f_w3 _ _ (by omega)).trans (by go_simp) | go_simp)
  have k0_1_w3 : w3.cell? ⟨w.heap.size, 1, none⟩ = some (.int .i64 (b)) := (by first | exact (c_w3 _ _ (by omega)).trans (by go_simp) | go_simp)
  have l0_1_w3 : w3.frozen? ⟨w.heap.size, 1, none⟩ = false := (by first | exact (f_w3 _ _ (by omega)).trans (by go_simp) | go_simp)
  have k1_0_w3 : w3.cell? ⟨w.heap.size + 1, 0, none⟩ = some (.int .i64 (c)) := (by first | exact (c_w3 _ _ (by omega)).trans (by go_simp) | go_simp)
  have l1_0_w3 : w3.frozen? ⟨w.heap.size + 1, 0, none⟩ = false := (by first | exact (f_w3 _ _ (by omega)).trans (by go_simp) | go_simp)
  have k1_1_w3 : w3.cell? ⟨w.heap.size + 1, 1, none⟩ = some (.int .i64 (d)) := (by first | exact (c_w3 _ _ (by omega)).trans (by go_simp) | go_simp)
  have l1_1_w3 : w3.frozen? ⟨w.heap.size + 1, 1, none⟩ = false := (by first | exact (f_w3 _ _ (by omega)).trans (by go_simp) | go_simp)
  have k2_0_w3 : w3.cell? ⟨w.heap.size + 1 + 1, 0, none⟩ = some (.int .i64 (0)) := (by first | exact (c_w3 _ _ (by omega)).trans (by go_simp) | go_simp)
  have l2_0_w3 : w3.frozen? ⟨w.heap.size + 1 + 1, 0, none⟩ = false := (by first | exact (f_w3 _ _ (by omega)).trans (by go_simp) | go_simp)
  have k2_1_w3 : w3.cell? ⟨w.heap.size + 1 + 1, 1, none⟩ = some (.int .i64 (0)) := (by first | exact (c_w3 _ _ (by omega)).trans (by go_simp) | go_simp)
  have l2_1_w3 : w3.frozen? ⟨w.heap.size + 1 + 1, 1, none⟩ = false := (by first | exact (f_w3 _ _ (by omega)).trans (by go_simp) | go_simp)
  have k3_0_w3 : w3.cell? ⟨w2.heap.size, 0, none⟩ = some (.int .i64 (d0.lo)) := (by first | exact (c_w3 _ _ (by omega)).trans (by go_simp) | go_simp)
  have l3_0_w3 : w3.frozen? ⟨w2.heap.size, 0, none⟩ = false := (by first | exact (f_w3 _ _ (by omega)).trans (by go_simp) | go_simp)
  have k3_1_w3 : w3.cell? ⟨w2.heap.size, 1, none⟩ = some (.int .i64 (d0.hi)) := (by first | exact (c_w3 _ _ (by omega)).trans (by go_simp) | go_simp)
  have l3_1_w3 : w3.frozen? ⟨w2.heap.size, 1, none⟩ = false := (by first | exact (f_w3 _ _ (by omega)).trans (by go_simp) | go_simp)
  have k4_0_w3 : w3.cell? ⟨w2.heap.size + 1, 0, none⟩ = some (.int .i64 (a)) := (by first | exact (c_w3 _ _ (by omega)).trans (by go_simp) | go_simp)
  have l4_0_w3 : w3.frozen? ⟨w2.heap.size + 1, 0, none⟩ = false := (by first | exact (f_w3 _ _ (by omega)).trans (by go_simp) | go_simp)
  have k4_1_w3 : w3.cell? ⟨w2.heap.size + 1, 1, none⟩ = some (.int .i64 (b)) := (by first | exact (c_w3 _ _ (by omega)).trans (by go_simp) | go_simp)
  have l4_1_w3 : w3.frozen? ⟨w2.heap.size + 1, 1, none⟩ = false := (by first | exact (f_w3 _ _ (by omega)).trans (by go_simp) | go_simp)
  have k5_0_w3 : w3.cell? ⟨w2.heap.size + 1 + 1, 0, none⟩ = some (.int .i64 (c)) := (by first | exact (c_w3 _ _ (by omega)).trans (by go_simp) | go_simp)
  have l5_0_w3 : w3.frozen? ⟨w2.heap.size + 1 + 1, 0, none⟩ = false := (by first | exact (f_w3 _ _ (by omega)).trans (by go_simp) | go_simp)
  have k5_1_w3 : w3.cell? ⟨w2.heap.size + 1 + 1, 1, none⟩ = some (.int .i64 (d)) := (by first | exact (c_w3 _ _ (by omega)).trans (by go_simp) | go_simp)
  have l5_1_w3 : w3.frozen? ⟨w2.heap.size + 1 + 1, 1, none⟩ = false := (by first | exact (f_w3 _ _ (by omega)).trans (by go_simp) | go_simp)
  clear c_w3 f_w3
  go_wp2_with fail
  rw [rounds_succ]
  go_wp2_with (first | (go_at_call 103; refine (floor_pos _ _ _ (by omega) (by omega) (by omega) (by omega)).mono ?_; rintro e w' ⟨rfl, rfl⟩) | (go_at_call 149; refine (ceil_pos _ _ _ (by omega) (by omega) (by omega) (by omega)).mono ?_; rintro e w' ⟨rfl, rfl⟩))
  refine (hull_any h0.lo h0.hi d1'.lo d1'.hi _).mono ?_
  rintro _ w4 ⟨rfl, b_w4⟩
  obtain ⟨c_w4, f_w4, z_w4⟩ := bfacts b_w4 (by first | (simp; rfl) | rfl)
  have y0_w4 : w.heap.size < w4.heap.size := (by omega)
  have y1_w4 : w.heap.size + 1 < w4.heap.size := (by omega)
  have y2_w4 : w.heap.size + 1 + 1 < w4.heap.size := (by omega)
  have y3_w4 : w2.heap.size < w4.heap.size := (by omega)
  have y4_w4 : w2.heap.size + 1 < w4.heap.size := (by omega)
  have y5_w4 : w2.heap.size + 1 + 1 < w4.heap.size := (by omega)
  have k0_0_w4 : w4.cell? ⟨w.heap.size, 0, none⟩ = some (.int .i64 (a)) := (by first | exact (c_w4 _ _ (by omega)).trans (by go_simp) | go_simp)
  have l0_0_w4 : w4.frozen? ⟨w.heap.size, 0, none⟩ = false := (by first | exact (f_w4 _ _ (by omega)).trans (by go_simp) | go_simp)
  have k0_1_w4 : w4.cell? ⟨w.heap.size, 1, none⟩ = some (.int .i64 (b)) := (by first | exact (c_w4 _ _ (by omega)).trans (by go_simp) | go_simp)
  have l0_1_w4 : w4.frozen? ⟨w.heap.size, 1, none⟩ = false := (by first | exact (f_w4 _ _ (by omega)).trans (by go_simp) | go_simp)
  have k1_0_w4 : w4.cell? ⟨w.heap.size + 1, 0, none⟩ = some (.int .i64 (c)) := (by first | exact (c_w4 _ _ (by omega)).trans (by go_simp) | go_simp)
  have l1_0_w4 : w4.frozen? ⟨w.heap.size + 1, 0, none⟩ = false := (by first | exact (f_w4 _ _ (by omega)).trans (by go_simp) | go_simp)
  have k1_1_w4 : w4.cell? ⟨w.heap.size + 1, 1, none⟩ = some (.int .i64 (d)) := (by first | exact (c_w4 _ _ (by omega)).trans (by go_simp) | go_simp)
  have l1_1_w4 : w4.frozen? ⟨w.heap.size + 1, 1, none⟩ = false := (by first | exact (f_w4 _ _ (by omega)).trans (by go_simp) | go_simp)
  have k2_0_w4 : w4.cell? ⟨w.heap.size + 1 + 1, 0, none⟩ = some (.int .i64 (0)) := (by first | exact (c_w4 _ _ (by omega)).trans (by go_simp) | go_simp)
  have l2_0_w4 : w4.frozen? ⟨w.heap.size + 1 + 1, 0, none⟩ = false := (by first | exact (f_w4 _ _ (by omega)).trans (by go_simp) | go_simp)
  have k2_1_w4 : w4.cell? ⟨w.heap.size + 1 + 1, 1, none⟩ = some (.int .i64 (0)) := (by first | exact (c_w4 _ _ (by omega)).trans (by go_simp) | go_simp)
  have l2_1_w4 : w4.frozen? ⟨w.heap.size + 1 + 1, 1, none⟩ = false := (by first | exact (f_w4 _ _ (by omega)).trans (by go_simp) | go_simp)
  have k3_0_w4 : w4.cell? ⟨w2.heap.size, 0, none⟩ = some (.int .i64 (h0.lo)) := (by first | exact (c_w4 _ _ (by omega)).trans (by go_simp) | go_simp)
  have l3_0_w4 : w4.frozen? ⟨w2.heap.size, 0, none⟩ = false := (by first | exact (f_w4 _ _ (by omega)).trans (by go_simp) | go_simp)
  have k3_1_w4 : w4.cell? ⟨w2.heap.size, 1, none⟩ = some (.int .i64 (h0.hi)) := (by first | exact (c_w4 _ _ (by omega)).trans (by go_simp) | go_simp)
  have l3_1_w4 : w4.frozen? ⟨w2.heap.size, 1, none⟩ = false := (by first | exact (f_w4 _ _ (by omega)).trans (by go_simp) | go_simp)
  have k4_0_w4 : w4.cell? ⟨w2.heap.size + 1, 0, none⟩ = some (.int .i64 (a)) := (by first | exact (c_w4 _ _ (by omega)).trans (by go_simp) | go_simp)
  have l4_0_w4 : w4.frozen? ⟨w2.heap.size + 1, 0, none⟩ = false := (by first | exact (f_w4 _ _ (by omega)).trans (by go_simp) | go_simp)
  have k4_1_w4 : w4.cell? ⟨w2.heap.size + 1, 1, none⟩ = some (.int .i64 (b)) := (by first | exact (c_w4 _ _ (by omega)).trans (by go_simp) | go_simp)
  have l4_1_w4 : w4.frozen? ⟨w2.heap.size + 1, 1, none⟩ = false := (by first | exact (f_w4 _ _ (by omega)).trans (by go_simp) | go_simp)
  have k5_0_w4 : w4.cell? ⟨w2.heap.size + 1 + 1, 0, none⟩ = some (.int .i64 (c)) := (by first | exact (c_w4 _ _ (by omega)).trans (by go_simp) | go_simp)
  have l5_0_w4 : w4.frozen? ⟨w2.heap.size + 1 + 1, 0, none⟩ = false := (by first | exact (f_w4 _ _ (by omega)).trans (by go_simp) | go_simp)
  have k5_1_w4 : w4.cell? ⟨w2.heap.size + 1 + 1, 1, none⟩ = some (.int .i64 (d)) := (by first | exact (c_w4 _ _ (by omega)).trans (by go_simp) | go_simp)
  have l5_1_w4 : w4.frozen? ⟨w2.heap.size + 1 + 1, 1, none⟩ = false := (by first | exact (f_w4 _ _ (by omega)).trans (by go_simp) | go_simp)
  clear c_w4 f_w4
  go_wp2_with fail
  rw [rounds_succ]
  go_wp2_with fail
  rw [rounds_succ]
  go_wp2_with fail
  refine wp_loop_rounds 3 ?_
  rw [rounds_succ]
  go_wp2_with (first | (go_at_call 103; refine (floor_pos _ _ _ (by omega) (by omega) (by omega) (by omega)).mono ?_; rintro e w' ⟨rfl, rfl⟩) | (go_at_call 149; refine (ceil_pos _ _ _ (by omega) (by omega) (by omega) (by omega)).mono ?_; rintro e w' ⟨rfl, rfl⟩))
  refine (hull_any h1.lo h1.hi d2.lo d2.hi _).mono ?_
  rintro _ w5 ⟨rfl, b_w5⟩
  obtain ⟨c_w5, f_w5, z_w5⟩ := bfacts b_w5 (by first | (simp; rfl) | rfl)
  have y0_w5 : w.heap.size < w5.heap.size := (by omega)
  have y1_w5 : w.heap.size + 1 < w5.heap.size := (by omega)
  have y2_w5 : w.heap.size + 1 + 1 < w5.heap.size := (by omega)
  have y3_w5 : w2.heap.size < w5.heap.size := (by omega)
  have y4_w5 : w2.heap.size + 1 < w5.heap.size := (by omega)
  have y5_w5 : w4.heap.size < w5.heap.size := (by omega)
  have k0_0_w5 : w5.cell? ⟨w.heap.size, 0, none⟩ = some (.int .i64 (a)) := (by first | exact (c_w5 _ _ (by omega)).trans (by go_simp) | go_simp)
  have l0_0_w5 : w5.frozen? ⟨w.heap.size, 0, none⟩ = false := (by first | exact (f_w5 _ _ (by omega)).trans (by go_simp) | go_simp)
  have k0_1_w5 : w5.cell? ⟨w.heap.size, 1, none⟩ = some (.int .i64 (b)) := (by first | exact (c_w5 _ _ (by omega)).trans (by go_simp) | go_simp)
  have l0_1_w5 : w5.frozen? ⟨w.heap.size, 1, none⟩ = false := (by first | exact (f_w5 _ _ (by omega)).trans (by go_simp) | go_simp)
  have k1_0_w5 : w5.cell? ⟨w.heap.size + 1, 0, none⟩ = some (.int .i64 (c)) := (by first | exact (c_w5 _ _ (by omega)).trans (by go_simp) | go_simp)
  have l1_0_w5 : w5.frozen? ⟨w.heap.size + 1, 0, none⟩ = false := (by first | exact (f_w5 _ _ (by omega)).trans (by go_simp) | go_simp)
  have k1_1_w5 : w5.cell? ⟨w.heap.size + 1, 1, none⟩ = some (.int .i64 (d)) := (by first | exact (c_w5 _ _ (by omega)).trans (by go_simp) | go_simp)
  have l1_1_w5 : w5.frozen? ⟨w.heap.size + 1, 1, none⟩ = false := (by first | exact (f_w5 _ _ (by omega)).trans (by go_simp) | go_simp)
  have k2_0_w5 : w5.cell? ⟨w.heap.size + 1 + 1, 0, none⟩ = some (.int .i64 (0)) := (by first | exact (c_w5 _ _ (by omega)).trans (by go_simp) | go_simp)
  have l2_0_w5 : w5.frozen? ⟨w.heap.size + 1 + 1, 0, none⟩ = false := (by first | exact (f_w5 _ _ (by omega)).trans (by go_simp) | go_simp)
  have k2_1_w5 : w5.cell? ⟨w.heap.size + 1 + 1, 1, none⟩ = some (.int .i64 (0)) := (by first | exact (c_w5 _ _ (by omega)).trans (by go_simp) | go_simp)
  have l2_1_w5 : w5.frozen? ⟨w.heap.size + 1 + 1, 1, none⟩ = false := (by first | exact (f_w5 _ _ (by omega)).trans (by go_simp) | go_simp)
  have k3_0_w5 : w5.cell? ⟨w2.heap.size, 0, none⟩ = some (.int .i64 (h1.lo)) := (by first | exact (c_w5 _ _ (by omega)).trans (by go_simp) | go_simp)
  have l3_0_w5 : w5.frozen? ⟨w2.heap.size, 0, none⟩ = false := (by first | exact (f_w5 _ _ (by omega)).trans (by go_simp) | go_simp)
  have k3_1_w5 : w5.cell? ⟨w2.heap.size, 1, none⟩ = some (.int .i64 (h1.hi)) := (by first | exact (c_w5 _ _ (by omega)).trans (by go_simp) | go_simp)
  have l3_1_w5 : w5.frozen? ⟨w2.heap.size, 1, none⟩ = false := (by first | exact (f_w5 _ _ (by omega)).trans (by go_simp) | go_simp)
  have k4_0_w5 : w5.cell? ⟨w2.heap.size + 1, 0, none⟩ = some (.int .i64 (a)) := (by first | exact (c_w5 _ _ (by omega)).trans (by go_simp) | go_simp)
  have l4_0_w5 : w5.frozen? ⟨w2.heap.size + 1, 0, none⟩ = false := (by first | exact (f_w5 _ _ (by omega)).trans (by go_simp) | go_simp)
  have k4_1_w5 : w5.cell? ⟨w2.heap.size + 1, 1, none⟩ = some (.int .i64 (b)) := (by first | exact (c_w5 _ _ (by omega)).trans (by go_simp) | go_simp)
  have l4_1_w5 : w5.frozen? ⟨w2.heap.size + 1, 1, none⟩ = false := (by first | exact (f_w5 _ _ (by omega)).trans (by go_simp) | go_simp)
  have k5_0_w5 : w5.cell? ⟨w4.heap.size, 0, none⟩ = some (.int .i64 (c)) := (by first | exact (c_w5 _ _ (by omega)).trans (by go_simp) | go_simp)
  have l5_0_w5 : w5.frozen? ⟨w4.heap.size, 0, none⟩ = false := (by first | exact (f_w5 _ _ (by omega)).trans (by go_simp) | go_simp)
  have k5_1_w5 : w5.cell? ⟨w4.heap.size, 1, none⟩ = some (.int .i64 (d)) := (by first | exact (c_w5 _ _ (by omega)).trans (by go_simp) | go_simp)
  have l5_1_w5 : w5.frozen? ⟨w4.heap.size, 1, none⟩ = false := (by first | exact (f_w5 _ _ (by omega)).trans (by go_simp) | go_simp)
  clear c_w5 f_w5
  go_wp2_with fail
  rw [rounds_succ]
  go_wp2_with (first | (go_at_call 103; refine (floor_pos _ _ _ (by omega) (by omega) (by omega) (by omega)).mono ?_; rintro e w' ⟨rfl, rfl⟩) | (go_at_call 149; refine (ceil_pos _ _ _ (by omega) (by omega) (by omega) (by omega)).mono ?_; rintro e w' ⟨rfl, rfl⟩))
  refine (hull_any h2.lo h2.hi d3.lo d3.hi _).mono ?_
  rintro _ w6 ⟨rfl, b_w6⟩
  obtain ⟨c_w6, f_w6, z_w6⟩ := bfacts b_w6 (by first | (simp; rfl) | rfl)
  have y0_w6 : w.heap.size < w6.heap.size := (by omega)
  have y1_w6 : w.heap.size + 1 < w6.heap.size := (by omega)
  have y2_w6 : w.heap.size + 1 + 1 < w6.heap.size := (by omega)
  have y3_w6 : w2.heap.size < w6.heap.size := (by omega)
  have y4_w6 : w2.heap.size + 1 < w6.heap.size := (by omega)
  have y5_w6 : w4.heap.size < w6.heap.size := (by omega)
  have k0_0_w6 : w6.cell? ⟨w.heap.size, 0, none⟩ = some (.int .i64 (a)) := (by first | exact (c_w6 _ _ (by omega)).trans (by go_simp) | go_simp)
  have l0_0_w6 : w6.frozen? ⟨w.heap.size, 0, none⟩ = false := (by first | exact (f_w6 _ _ (by omega)).trans (by go_simp) | go_simp)
  have k0_1_w6 : w6.cell? ⟨w.heap.size, 1, none⟩ = some (.int .i64 (b)) := (by first | exact (c_w6 _ _ (by omega)).trans (by go_simp) | go_simp)
  have l0_1_w6 : w6.frozen? ⟨w.heap.size, 1, none⟩ = false := (by first | exact (f_w6 _ _ (by omega)).trans (by go_simp) | go_simp)
  have k1_0_w6 : w6.cell? ⟨w.heap.size + 1, 0, none⟩ = some (.int .i64 (c)) := (by first | exact (c_w6 _ _ (by omega)).trans (by go_simp) | go_simp)
  have l1_0_w6 : w6.frozen? ⟨w.heap.size + 1, 0, none⟩ = false := (by first | exact (f_w6 _ _ (by omega)).trans (by go_simp) | go_simp)
  have k1_1_w6 : w6.cell? ⟨w.heap.size + 1, 1, none⟩ = some (.int .i64 (d)) := (by first | exact (c_w6 _ _ (by omega)).trans (by go_simp) | go_simp)
  have l1_1_w6 : w6.frozen? ⟨w.heap.size + 1, 1, none⟩ = false := (by first | exact (f_w6 _ _ (by omega)).trans (by go_simp) | go_simp)
  have k2_0_w6 : w6.cell? ⟨w.heap.size + 1 + 1, 0, none⟩ = some (.int .i64 (0)) := (by first | exact (c_w6 _ _ (by omega)).trans (by go_simp) | go_simp)
  have l2_0_w6 : w6.frozen? ⟨w.heap.size + 1 + 1, 0, none⟩ = false := (by first | exact (f_w6 _ _ (by omega)).trans (by go_simp) | go_simp)
  have k2_1_w6 : w6.cell? ⟨w.heap.size + 1 + 1, 1, none⟩ = some (.int .i64 (0)) := (by first | exact (c_w6 _ _ (by omega)).trans (by go_simp) | go_simp)
  have l2_1_w6 : w6.frozen? ⟨w.heap.size + 1 + 1, 1, none⟩ = false := (by first | exact (f_w6 _ _ (by omega)).trans (by go_simp) | go_simp)
  have k3_0_w6 : w6.cell? ⟨w2.heap.size, 0, none⟩ = some (.int .i64 (h2.lo)) := (by first | exact (c_w6 _ _ (by omega)).trans (by go_simp) | go_simp)
  have l3_0_w6 : w6.frozen? ⟨w2.heap.size, 0, none⟩ = false := (by first | exact (f_w6 _ _ (by omega)).trans (by go_simp) | go_simp)
  have k3_1_w6 : w6.cell? ⟨w2.heap.size, 1, none⟩ = some (.int .i64 (h2.hi)) := (by first | exact (c_w6 _ _ (by omega)).trans (by go_simp) | go_simp)
  have l3_1_w6 : w6.frozen? ⟨w2.heap.size, 1, none⟩ = false := (by first | exact (f_w6 _ _ (by omega)).trans (by go_simp) | go_simp)
  have k4_0_w6 : w6.cell? ⟨w2.heap.size + 1, 0, none⟩ = some (.int .i64 (a)) := (by first | exact (c_w6 _ _ (by omega)).trans (by go_simp) | go_simp)
  have l4_0_w6 : w6.frozen? ⟨w2.heap.size + 1, 0, none⟩ = false := (by first | exact (f_w6 _ _ (by omega)).trans (by go_simp) | go_simp)
  have k4_1_w6 : w6.cell? ⟨w2.heap.size + 1, 1, none⟩ = some (.int .i64 (b)) := (by first | exact (c_w6 _ _ (by omega)).trans (by go_simp) | go_simp)
  have l4_1_w6 : w6.frozen? ⟨w2.heap.size + 1, 1, none⟩ = false := (by first | exact (f_w6 _ _ (by omega)).trans (by go_simp) | go_simp)
  have k5_0_w6 : w6.cell? ⟨w4.heap.size, 0, none⟩ = some (.int .i64 (c)) := (by first | exact (c_w6 _ _ (by omega)).trans (by go_simp) | go_simp)
  have l5_0_w6 : w6.frozen? ⟨w4.heap.size, 0, none⟩ = false := (by first | exact (f_w6 _ _ (by omega)).trans (by go_simp) | go_simp)
  have k5_1_w6 : w6.cell? ⟨w4.heap.size, 1, none⟩ = some (.int .i64 (d)) := (by first | exact (c_w6 _ _ (by omega)).trans (by go_simp) | go_simp)
  have l5_1_w6 : w6.frozen? ⟨w4.heap.size, 1, none⟩ = false := (by first | exact (f_w6 _ _ (by omega)).trans (by go_simp) | go_simp)
  clear c_w6 f_w6
  go_wp2_with fail
  rw [rounds_succ]
  go_wp2_with fail
  rw [rounds_succ]
  go_wp2_with fail
  refine (TO.out _).mono ?_
  rintro _ w7 ⟨rfl, b_w7⟩
  obtain ⟨c_w7, f_w7, z_w7⟩ := bfacts b_w7 (by first | (simp; rfl) | rfl)
  have y0_w7 : w.heap.size + 1 + 1 < w7.heap.size := (by omega)
  have yb0_w7 : w.heap.size + 1 < w7.heap.size := (by omega)
  have yb1_w7 : w.heap.size < w7.heap.size := (by omega)
  have k0_0_w7 : w7.cell? ⟨w.heap.size + 1 + 1, 0, none⟩ = some (.int .i64 (0)) := (by first | exact (c_w7 _ _ (by omega)).trans (by go_simp) | go_simp)
  have l0_0_w7 : w7.frozen? ⟨w.heap.size + 1 + 1, 0, none⟩ = false := (by first | exact (f_w7 _ _ (by omega)).trans (by go_simp) | go_simp)
  have k0_1_w7 : w7.cell? ⟨w.heap.size + 1 + 1, 1, none⟩ = some (.int .i64 (0)) := (by first | exact (c_w7 _ _ (by omega)).trans (by go_simp) | go_simp)
  have l0_1_w7 : w7.frozen? ⟨w.heap.size + 1 + 1, 1, none⟩ = false := (by first | exact (f_w7 _ _ (by omega)).trans (by go_simp) | go_simp)
  clear c_w7 f_w7
  go_wp2
  exact bodyPost_ret (v := .tuple #[(.agg #[.int .i64 (r.lo), .int .i64 (r.hi)]), .int .i64 r.code]) (by simp [results, Tryz.results197, go_sem, *]) rfl ⟨rfl, by (repeat' (first | with_reducible exact Below.refl _ _ | with_reducible refine Below.setCell ?_ ?_ _ | with_reducible refine Below.drew ?_ | with_reducible refine below_drewN ?_ _ | with_reducible refine Below.alloc ?_ ?_ _ | with_reducible refine below_step b_w7 ?_ ?_ | with_reducible refine below_step b_w6 ?_ ?_ | with_reducible refine below_step b_w5 ?_ ?_ | with_reducible refine below_step b_w4 ?_ ?_ | with_reducible refine below_step b_w3 ?_ ?_ | with_reducible refine below_step b_w2 ?_ ?_ | with_reducible refine below_step b_w1 ?_ ?_ | omega | (simp; done) | (simp; omega)))⟩
theorem divide_any (a b : Iv) (w : World) (a0 : -20000000 ≤ a.lo) (ab : a.lo ≤ a.hi) (a1 : a.hi ≤ 20000000) (c0 : 0 < b.lo) (cd : b.lo ≤ b.hi) (d1 : b.hi ≤ 20000000) :
    Calls Tryz.prog 197 #[(.agg #[.int .i64 (a.lo), .int .i64 (a.hi)]), (.agg #[.int .i64 (b.lo), .int .i64 (b.hi)])] w fun e w' => e = .returned (.tuple #[(.agg #[.int .i64 ((toM (diI a b)).lo), .int .i64 ((toM (diI a b)).hi)]), .int .i64 (toM (diI a b)).code]) ∧ Below w.heap.size w w' := by
  have k := diI_bd (a := a) (b := b) a0 (by omega) (by omega) a1 c0 (by omega)
  have hh := diI_hull a b
  refine divide_walk a.lo a.hi b.lo b.hi w a0 (by omega) (by omega) a1 ab c0 cd d1 (dqI a.lo b.lo) (dqI a.lo b.hi) (dqI a.hi b.lo) (dqI a.hi b.hi)
    (huI (dqI a.lo b.lo) (dqI a.lo b.lo)) (huI (huI (dqI a.lo b.lo) (dqI a.lo b.lo)) (dqI a.lo b.hi)) (huI (huI (huI (dqI a.lo b.lo) (dqI a.lo b.lo)) (dqI a.lo b.hi)) (dqI a.hi b.lo)) (diI a b) (toM (diI a b))
    rfl rfl rfl rfl rfl rfl rfl rfl rfl rfl rfl ?_ rfl k.2.1
  rw [← hh]

set_option maxHeartbeats 1000000 in
theorem onWall_no (h : Int) (a b : Iv) (w : World) (a0 : -20000000 ≤ a.lo) (ab : a.lo ≤ a.hi) (a1 : a.hi ≤ 20000000) (c0 : 0 < b.lo) (cd : b.lo ≤ b.hi) (d1 : b.hi ≤ 20000000) (k : ivB (diI a b).lo (diI a b).hi = false) :
    Calls Tryz.prog 184 #[.int .i64 h, (.agg #[.int .i64 (a.lo), .int .i64 (a.hi)]), (.agg #[.int .i64 (b.lo), .int .i64 (b.hi)])] w fun e w' => e = .returned (.tuple #[(.agg #[.int .i64 (0), .int .i64 (0)]), .int .i64 3]) ∧ Below w.heap.size w w' := by
  have di := fun w => divide_any a b w a0 ab a1 c0 cd d1
  rw [toM_no k] at di
  have DI := Lib.hid di; clear di k
  go_enter Tryz.func184, Tryz.ntmps184
  go_wp2_with fail
  refine (DI.out _).mono ?_
  rintro _ w1 ⟨rfl, b_w1⟩
  obtain ⟨c_w1, f_w1, z_w1⟩ := bfacts b_w1 (by first | (simp; rfl) | rfl)
  have y0_w1 : w.heap.size + 1 + 1 < w1.heap.size := (by omega)
  have yb0_w1 : w.heap.size + 1 < w1.heap.size := (by omega)
  have yb1_w1 : w.heap.size < w1.heap.size := (by omega)
  have k0_0_w1 : w1.cell? ⟨w.heap.size + 1 + 1, 0, none⟩ = some (.int .i64 (0)) := (by first | exact (c_w1 _ _ (by omega)).trans (by go_simp) | go_simp)
  have l0_0_w1 : w1.frozen? ⟨w.heap.size + 1 + 1, 0, none⟩ = false := (by first | exact (f_w1 _ _ (by omega)).trans (by go_simp) | go_simp)
  have k0_1_w1 : w1.cell? ⟨w.heap.size + 1 + 1, 1, none⟩ = some (.int .i64 (0)) := (by first | exact (c_w1 _ _ (by omega)).trans (by go_simp) | go_simp)
  have l0_1_w1 : w1.frozen? ⟨w.heap.size + 1 + 1, 1, none⟩ = false := (by first | exact (f_w1 _ _ (by omega)).trans (by go_simp) | go_simp)
  clear c_w1 f_w1
  go_wp2
  exact bodyPost_ret (v := .tuple #[(.agg #[.int .i64 (0), .int .i64 (0)]), .int .i64 3]) (by simp [results, Tryz.results184, go_sem, *]) rfl ⟨rfl, by (repeat' (first | with_reducible exact Below.refl _ _ | with_reducible refine Below.setCell ?_ ?_ _ | with_reducible refine Below.drew ?_ | with_reducible refine below_drewN ?_ _ | with_reducible refine Below.alloc ?_ ?_ _ | with_reducible refine below_step b_w1 ?_ ?_ | omega | (simp; done) | (simp; omega)))⟩
set_option maxHeartbeats 2000000 in
theorem onWall_yes (h : Int) (a b : Iv) (w : World) (h0 : 1 ≤ h) (h1 : h ≤ 10000) (a0 : -20000000 ≤ a.lo) (ab : a.lo ≤ a.hi) (a1 : a.hi ≤ 20000000) (c0 : 0 < b.lo) (cd : b.lo ≤ b.hi) (d1 : b.hi ≤ 20000000) (k : ivB (diI a b).lo (diI a b).hi = true) :
    Calls Tryz.prog 184 #[.int .i64 h, (.agg #[.int .i64 (a.lo), .int .i64 (a.hi)]), (.agg #[.int .i64 (b.lo), .int .i64 (b.hi)])] w fun e w' => e = .returned (.tuple #[(.agg #[.int .i64 ((faI h (diI a b)).lo), .int .i64 ((faI h (diI a b)).hi)]), .int .i64 0]) ∧ Below w.heap.size w w' := by
  have di := fun w => divide_any a b w a0 ab a1 c0 cd d1
  have kb := diI_bd (a := a) (b := b) a0 (by omega) (by omega) a1 c0 (by omega)
  have fb := faI_bd (h := h) (q := diI a b) h0 h1 kb.1 kb.2.1 kb.2.2
  have fe : faI h (diI a b) = ⟨(-h * (diI a b).hi) / 1000000, -(-(-h * (diI a b).lo) / 1000000)⟩ := rfl
  rw [toM_yes k] at di
  generalize faI h (diI a b) = r at fe ⊢
  generalize diI a b = q at di kb fb fe
  obtain ⟨f1, f2, f3, f4⟩ := fb
  have DI := Lib.hid di; have FE := Lib.hid fe; clear di k kb fe
  have e1 : IntKind.i64.wrap (-h) = -h := IntWalk.i64_in _ (by omega)
  have e2 : IntKind.i64.wrap (-h * q.hi) = -h * q.hi := IntWalk.i64_in _ (by omega)
  have e3 : IntKind.i64.wrap (-h * q.lo) = -h * q.lo := IntWalk.i64_in _ (by omega)
  go_enter Tryz.func184, Tryz.ntmps184
  go_wp2_with fail
  refine (DI.out _).mono ?_
  rintro _ w1 ⟨rfl, b_w1⟩
  obtain ⟨c_w1, f_w1, z_w1⟩ := bfacts b_w1 (by first | (simp; rfl) | rfl)
  have y0_w1 : w.heap.size + 1 + 1 < w1.heap.size := (by omega)
  have yb0_w1 : w.heap.size + 1 < w1.heap.size := (by omega)
  have yb1_w1 : w.heap.size < w1.heap.size := (by omega)
  have k0_0_w1 : w1.cell? ⟨w.heap.size + 1 + 1, 0, none⟩ = some (.int .i64 (0)) := (by first | exact (c_w1 _ _ (by omega)).trans (by go_simp) | go_simp)
  have l0_0_w1 : w1.frozen? ⟨w.heap.size + 1 + 1, 0, none⟩ = false := (by first | exact (f_w1 _ _ (by omega)).trans (by go_simp) | go_simp)
  have k0_1_w1 : w1.cell? ⟨w.heap.size + 1 + 1, 1, none⟩ = some (.int .i64 (0)) := (by first | exact (c_w1 _ _ (by omega)).trans (by go_simp) | go_simp)
  have l0_1_w1 : w1.frozen? ⟨w.heap.size + 1 + 1, 1, none⟩ = false := (by first | exact (f_w1 _ _ (by omega)).trans (by go_simp) | go_simp)
  clear c_w1 f_w1
  go_wp2_with fail
  refine wp_region_bl2 13 (fun w' => w'.cell? ⟨w1.heap.size, 0, none⟩ = some (.int .i64 (q.lo)) ∧ w'.cell? ⟨w1.heap.size, 1, none⟩ = some (.int .i64 (q.hi))) (by kernel_rfl) (by kernel_rfl) (by rfl) (fun w' hw' => ?_) (fun hS => ?_)
  focus exact ⟨(hw'.cell (p := ⟨w1.heap.size, 0, none⟩) (by first | omega | (simp; done) | (simp; omega))).trans (by go_simp), (hw'.cell (p := ⟨w1.heap.size, 1, none⟩) (by first | omega | (simp; done) | (simp; omega))).trans (by go_simp)⟩
  have HS := Lib.hid hS; clear hS
  simp only [List.take_succ_cons, List.take_zero, List.drop_succ_cons, List.drop_zero]
  repeat (first | (refine wpBl_op ?_ ?_ (fun K hK => ?_); (focus rfl); (focus rfl); apply Exists.intro; refine ⟨fun w' hw' => ?_, ?_⟩; (focus (first | (go_simp; first | (go_at_call 103; exact calls_below (floor_pos _ _ _ (by omega) (by omega) (by omega) (by omega))) | (go_at_call 149; exact calls_below (ceil_pos _ _ _ (by omega) (by omega) (by omega) (by omega)))) | (obtain ⟨kr0, kr1⟩ := HS.out w' hw'; go_simp; rfl))); go_simp; refine hK _ ?_; clear hK K) | (refine wpBl_mk ?_ ?_ (fun K hK => ⟨fun g => .pointer (some ⟨g, 0, none⟩), ?_⟩); (focus rfl); (focus rfl); apply Exists.intro; refine ⟨fun w' => ?_, ?_⟩; (focus (go_simp; rfl)); go_simp; refine hK _ _ _ ?_; clear hK K) | (refine wpBl_no ?_ ?_ (fun K hK => ?_); (focus rfl); (focus rfl); go_simp; refine hK _ ?_; clear hK K))
  refine wpBl_end (fun w2 b_w2 => TailW_nil ?_)
  obtain ⟨c_w2, f_w2, z_w2⟩ := bfacts b_w2 (by first | (simp; rfl) | rfl)
  have y0_w2 : w.heap.size + 1 + 1 < w2.heap.size := (by omega)
  have yb0_w2 : w.heap.size + 1 < w2.heap.size := (by omega)
  have yb1_w2 : w.heap.size < w2.heap.size := (by omega)
  have k0_0_w2 : w2.cell? ⟨w.heap.size + 1 + 1, 0, none⟩ = some (.int .i64 (0)) := (by first | exact (c_w2 _ _ (by omega)).trans (by go_simp) | go_simp)
  have l0_0_w2 : w2.frozen? ⟨w.heap.size + 1 + 1, 0, none⟩ = false := (by first | exact (f_w2 _ _ (by omega)).trans (by go_simp) | go_simp)
  have k0_1_w2 : w2.cell? ⟨w.heap.size + 1 + 1, 1, none⟩ = some (.int .i64 (0)) := (by first | exact (c_w2 _ _ (by omega)).trans (by go_simp) | go_simp)
  have l0_1_w2 : w2.frozen? ⟨w.heap.size + 1 + 1, 1, none⟩ = false := (by first | exact (f_w2 _ _ (by omega)).trans (by go_simp) | go_simp)
  clear c_w2 f_w2
  clear HS
  go_simp
  go_wp2
  exact bodyPost_ret (v := .tuple #[(.agg #[.int .i64 (r.lo), .int .i64 (r.hi)]), .int .i64 0]) (by rw [FE.out]; simp [results, Tryz.results184, go_sem, *]) rfl ⟨rfl, by (repeat' (first | with_reducible exact Below.refl _ _ | with_reducible refine Below.setCell ?_ ?_ _ | with_reducible refine Below.drew ?_ | with_reducible refine below_drewN ?_ _ | with_reducible refine Below.alloc ?_ ?_ _ | with_reducible refine below_step b_w2 ?_ ?_ | with_reducible refine below_step b_w1 ?_ ?_ | omega | (simp; done) | (simp; omega)))⟩

set_option maxHeartbeats 2000000 in
theorem IsPlace_any (p : P2) (w : World) :
    Calls Tryz.prog 185 #[(.agg #[.int .i64 (p.x.lo), .int .i64 (p.x.hi), .int .i64 (p.y.lo), .int .i64 (p.y.hi)])] w fun e w' => e = .returned (.bool (plB p)) ∧ Below w.heap.size w w' := by
  have i1 := fun w => within_any p.x.lo p.x.hi 1000000 w (by omega) (by omega)
  have i2 := fun w => within_any p.y.lo p.y.hi 1000000 w (by omega) (by omega)
  have r : plB p = ((inB p.x.lo (-1000000) 1000000 && inB p.x.hi (-1000000) 1000000 && decide (p.x.lo ≤ p.x.hi)) && (inB p.y.lo (-1000000) 1000000 && inB p.y.hi (-1000000) 1000000 && decide (p.y.lo ≤ p.y.hi))) := by
    unfold plB; rw [coB_eq', coB_eq']
  generalize (inB p.x.lo (-1000000) 1000000 && inB p.x.hi (-1000000) 1000000) = s1 at i1 r
  generalize (inB p.y.lo (-1000000) 1000000 && inB p.y.hi (-1000000) 1000000) = s2 at i2 r
  have R := Lib.hid r; have I1 := Lib.hid i1; have I2 := Lib.hid i2; clear r i1 i2
  cases s1
  · go_enter Tryz.func185, Tryz.ntmps185
    go_wp2_with fail
    refine (I1.out _).mono ?_
    rintro _ w1 ⟨rfl, b_w1⟩
    obtain ⟨c_w1, f_w1, z_w1⟩ := bfacts b_w1 (by first | (simp; rfl) | rfl)
    have y0_w1 : w.heap.size < w1.heap.size := (by omega)
    have k0_0_w1 : w1.cell? ⟨w.heap.size, 0, none⟩ = some (.int .i64 (p.x.lo)) := (by first | exact (c_w1 _ _ (by omega)).trans (by go_simp) | go_simp)
    have l0_0_w1 : w1.frozen? ⟨w.heap.size, 0, none⟩ = false := (by first | exact (f_w1 _ _ (by omega)).trans (by go_simp) | go_simp)
    have k0_1_w1 : w1.cell? ⟨w.heap.size, 1, none⟩ = some (.int .i64 (p.x.hi)) := (by first | exact (c_w1 _ _ (by omega)).trans (by go_simp) | go_simp)
    have l0_1_w1 : w1.frozen? ⟨w.heap.size, 1, none⟩ = false := (by first | exact (f_w1 _ _ (by omega)).trans (by go_simp) | go_simp)
    have k0_2_w1 : w1.cell? ⟨w.heap.size, 2, none⟩ = some (.int .i64 (p.y.lo)) := (by first | exact (c_w1 _ _ (by omega)).trans (by go_simp) | go_simp)
    have l0_2_w1 : w1.frozen? ⟨w.heap.size, 2, none⟩ = false := (by first | exact (f_w1 _ _ (by omega)).trans (by go_simp) | go_simp)
    have k0_3_w1 : w1.cell? ⟨w.heap.size, 3, none⟩ = some (.int .i64 (p.y.hi)) := (by first | exact (c_w1 _ _ (by omega)).trans (by go_simp) | go_simp)
    have l0_3_w1 : w1.frozen? ⟨w.heap.size, 3, none⟩ = false := (by first | exact (f_w1 _ _ (by omega)).trans (by go_simp) | go_simp)
    clear c_w1 f_w1
    go_wp2
    go_ret
    exact ⟨ret_bool (by rw [R.out]; rfl), by (repeat' (first | with_reducible exact Below.refl _ _ | with_reducible refine Below.setCell ?_ ?_ _ | with_reducible refine Below.drew ?_ | with_reducible refine below_drewN ?_ _ | with_reducible refine Below.alloc ?_ ?_ _ | with_reducible refine below_step b_w1 ?_ ?_ | omega | (simp; done) | (simp; omega)))⟩
  · cases s2
    · go_enter Tryz.func185, Tryz.ntmps185
      go_wp2_with fail
      refine (I1.out _).mono ?_
      rintro _ w1 ⟨rfl, b_w1⟩
      obtain ⟨c_w1, f_w1, z_w1⟩ := bfacts b_w1 (by first | (simp; rfl) | rfl)
      have y0_w1 : w.heap.size < w1.heap.size := (by omega)
      have k0_0_w1 : w1.cell? ⟨w.heap.size, 0, none⟩ = some (.int .i64 (p.x.lo)) := (by first | exact (c_w1 _ _ (by omega)).trans (by go_simp) | go_simp)
      have l0_0_w1 : w1.frozen? ⟨w.heap.size, 0, none⟩ = false := (by first | exact (f_w1 _ _ (by omega)).trans (by go_simp) | go_simp)
      have k0_1_w1 : w1.cell? ⟨w.heap.size, 1, none⟩ = some (.int .i64 (p.x.hi)) := (by first | exact (c_w1 _ _ (by omega)).trans (by go_simp) | go_simp)
      have l0_1_w1 : w1.frozen? ⟨w.heap.size, 1, none⟩ = false := (by first | exact (f_w1 _ _ (by omega)).trans (by go_simp) | go_simp)
      have k0_2_w1 : w1.cell? ⟨w.heap.size, 2, none⟩ = some (.int .i64 (p.y.lo)) := (by first | exact (c_w1 _ _ (by omega)).trans (by go_simp) | go_simp)
      have l0_2_w1 : w1.frozen? ⟨w.heap.size, 2, none⟩ = false := (by first | exact (f_w1 _ _ (by omega)).trans (by go_simp) | go_simp)
      have k0_3_w1 : w1.cell? ⟨w.heap.size, 3, none⟩ = some (.int .i64 (p.y.hi)) := (by first | exact (c_w1 _ _ (by omega)).trans (by go_simp) | go_simp)
      have l0_3_w1 : w1.frozen? ⟨w.heap.size, 3, none⟩ = false := (by first | exact (f_w1 _ _ (by omega)).trans (by go_simp) | go_simp)
      clear c_w1 f_w1
      go_wp2_with fail
      refine (I2.out _).mono ?_
      rintro _ w2 ⟨rfl, b_w2⟩
      obtain ⟨c_w2, f_w2, z_w2⟩ := bfacts b_w2 (by first | (simp; rfl) | rfl)
      have y0_w2 : w.heap.size < w2.heap.size := (by omega)
      have k0_0_w2 : w2.cell? ⟨w.heap.size, 0, none⟩ = some (.int .i64 (p.x.lo)) := (by first | exact (c_w2 _ _ (by omega)).trans (by go_simp) | go_simp)
      have l0_0_w2 : w2.frozen? ⟨w.heap.size, 0, none⟩ = false := (by first | exact (f_w2 _ _ (by omega)).trans (by go_simp) | go_simp)
      have k0_1_w2 : w2.cell? ⟨w.heap.size, 1, none⟩ = some (.int .i64 (p.x.hi)) := (by first | exact (c_w2 _ _ (by omega)).trans (by go_simp) | go_simp)
      have l0_1_w2 : w2.frozen? ⟨w.heap.size, 1, none⟩ = false := (by first | exact (f_w2 _ _ (by omega)).trans (by go_simp) | go_simp)
      have k0_2_w2 : w2.cell? ⟨w.heap.size, 2, none⟩ = some (.int .i64 (p.y.lo)) := (by first | exact (c_w2 _ _ (by omega)).trans (by go_simp) | go_simp)
      have l0_2_w2 : w2.frozen? ⟨w.heap.size, 2, none⟩ = false := (by first | exact (f_w2 _ _ (by omega)).trans (by go_simp) | go_simp)
      have k0_3_w2 : w2.cell? ⟨w.heap.size, 3, none⟩ = some (.int .i64 (p.y.hi)) := (by first | exact (c_w2 _ _ (by omega)).trans (by go_simp) | go_simp)
      have l0_3_w2 : w2.frozen? ⟨w.heap.size, 3, none⟩ = false := (by first | exact (f_w2 _ _ (by omega)).trans (by go_simp) | go_simp)
      clear c_w2 f_w2
      go_wp2
      go_ret
      exact ⟨ret_bool (by rw [R.out]; simp), by (repeat' (first | with_reducible exact Below.refl _ _ | with_reducible refine Below.setCell ?_ ?_ _ | with_reducible refine Below.drew ?_ | with_reducible refine below_drewN ?_ _ | with_reducible refine Below.alloc ?_ ?_ _ | with_reducible refine below_step b_w2 ?_ ?_ | with_reducible refine below_step b_w1 ?_ ?_ | omega | (simp; done) | (simp; omega)))⟩
    · by_cases t1 : p.x.lo ≤ p.x.hi
      · have u1 : decide (p.x.lo ≤ p.x.hi) = true := decide_eq_true t1
        by_cases t2 : p.y.lo ≤ p.y.hi
        · have u2 : decide (p.y.lo ≤ p.y.hi) = true := decide_eq_true t2
          go_enter Tryz.func185, Tryz.ntmps185
          go_wp2_with fail
          refine (I1.out _).mono ?_
          rintro _ w1 ⟨rfl, b_w1⟩
          obtain ⟨c_w1, f_w1, z_w1⟩ := bfacts b_w1 (by first | (simp; rfl) | rfl)
          have y0_w1 : w.heap.size < w1.heap.size := (by omega)
          have k0_0_w1 : w1.cell? ⟨w.heap.size, 0, none⟩ = some (.int .i64 (p.x.lo)) := (by first | exact (c_w1 _ _ (by omega)).trans (by go_simp) | go_simp)
          have l0_0_w1 : w1.frozen? ⟨w.heap.size, 0, none⟩ = false := (by first | exact (f_w1 _ _ (by omega)).trans (by go_simp) | go_simp)
          have k0_1_w1 : w1.cell? ⟨w.heap.size, 1, none⟩ = some (.int .i64 (p.x.hi)) := (by first | exact (c_w1 _ _ (by omega)).trans (by go_simp) | go_simp)
          have l0_1_w1 : w1.frozen? ⟨w.heap.size, 1, none⟩ = false := (by first | exact (f_w1 _ _ (by omega)).trans (by go_simp) | go_simp)
          have k0_2_w1 : w1.cell? ⟨w.heap.size, 2, none⟩ = some (.int .i64 (p.y.lo)) := (by first | exact (c_w1 _ _ (by omega)).trans (by go_simp) | go_simp)
          have l0_2_w1 : w1.frozen? ⟨w.heap.size, 2, none⟩ = false := (by first | exact (f_w1 _ _ (by omega)).trans (by go_simp) | go_simp)
          have k0_3_w1 : w1.cell? ⟨w.heap.size, 3, none⟩ = some (.int .i64 (p.y.hi)) := (by first | exact (c_w1 _ _ (by omega)).trans (by go_simp) | go_simp)
          have l0_3_w1 : w1.frozen? ⟨w.heap.size, 3, none⟩ = false := (by first | exact (f_w1 _ _ (by omega)).trans (by go_simp) | go_simp)
          clear c_w1 f_w1
          go_wp2_with fail
          refine (I2.out _).mono ?_
          rintro _ w2 ⟨rfl, b_w2⟩
          obtain ⟨c_w2, f_w2, z_w2⟩ := bfacts b_w2 (by first | (simp; rfl) | rfl)
          have y0_w2 : w.heap.size < w2.heap.size := (by omega)
          have k0_0_w2 : w2.cell? ⟨w.heap.size, 0, none⟩ = some (.int .i64 (p.x.lo)) := (by first | exact (c_w2 _ _ (by omega)).trans (by go_simp) | go_simp)
          have l0_0_w2 : w2.frozen? ⟨w.heap.size, 0, none⟩ = false := (by first | exact (f_w2 _ _ (by omega)).trans (by go_simp) | go_simp)
          have k0_1_w2 : w2.cell? ⟨w.heap.size, 1, none⟩ = some (.int .i64 (p.x.hi)) := (by first | exact (c_w2 _ _ (by omega)).trans (by go_simp) | go_simp)
          have l0_1_w2 : w2.frozen? ⟨w.heap.size, 1, none⟩ = false := (by first | exact (f_w2 _ _ (by omega)).trans (by go_simp) | go_simp)
          have k0_2_w2 : w2.cell? ⟨w.heap.size, 2, none⟩ = some (.int .i64 (p.y.lo)) := (by first | exact (c_w2 _ _ (by omega)).trans (by go_simp) | go_simp)
          have l0_2_w2 : w2.frozen? ⟨w.heap.size, 2, none⟩ = false := (by first | exact (f_w2 _ _ (by omega)).trans (by go_simp) | go_simp)
          have k0_3_w2 : w2.cell? ⟨w.heap.size, 3, none⟩ = some (.int .i64 (p.y.hi)) := (by first | exact (c_w2 _ _ (by omega)).trans (by go_simp) | go_simp)
          have l0_3_w2 : w2.frozen? ⟨w.heap.size, 3, none⟩ = false := (by first | exact (f_w2 _ _ (by omega)).trans (by go_simp) | go_simp)
          clear c_w2 f_w2
          go_wp2
          go_ret
          exact ⟨ret_bool (by rw [R.out, u1, u2]; rfl), by (repeat' (first | with_reducible exact Below.refl _ _ | with_reducible refine Below.setCell ?_ ?_ _ | with_reducible refine Below.drew ?_ | with_reducible refine below_drewN ?_ _ | with_reducible refine Below.alloc ?_ ?_ _ | with_reducible refine below_step b_w2 ?_ ?_ | with_reducible refine below_step b_w1 ?_ ?_ | omega | (simp; done) | (simp; omega)))⟩
        · have u2 : decide (p.y.lo ≤ p.y.hi) = false := decide_eq_false t2
          go_enter Tryz.func185, Tryz.ntmps185
          go_wp2_with fail
          refine (I1.out _).mono ?_
          rintro _ w1 ⟨rfl, b_w1⟩
          obtain ⟨c_w1, f_w1, z_w1⟩ := bfacts b_w1 (by first | (simp; rfl) | rfl)
          have y0_w1 : w.heap.size < w1.heap.size := (by omega)
          have k0_0_w1 : w1.cell? ⟨w.heap.size, 0, none⟩ = some (.int .i64 (p.x.lo)) := (by first | exact (c_w1 _ _ (by omega)).trans (by go_simp) | go_simp)
          have l0_0_w1 : w1.frozen? ⟨w.heap.size, 0, none⟩ = false := (by first | exact (f_w1 _ _ (by omega)).trans (by go_simp) | go_simp)
          have k0_1_w1 : w1.cell? ⟨w.heap.size, 1, none⟩ = some (.int .i64 (p.x.hi)) := (by first | exact (c_w1 _ _ (by omega)).trans (by go_simp) | go_simp)
          have l0_1_w1 : w1.frozen? ⟨w.heap.size, 1, none⟩ = false := (by first | exact (f_w1 _ _ (by omega)).trans (by go_simp) | go_simp)
          have k0_2_w1 : w1.cell? ⟨w.heap.size, 2, none⟩ = some (.int .i64 (p.y.lo)) := (by first | exact (c_w1 _ _ (by omega)).trans (by go_simp) | go_simp)
          have l0_2_w1 : w1.frozen? ⟨w.heap.size, 2, none⟩ = false := (by first | exact (f_w1 _ _ (by omega)).trans (by go_simp) | go_simp)
          have k0_3_w1 : w1.cell? ⟨w.heap.size, 3, none⟩ = some (.int .i64 (p.y.hi)) := (by first | exact (c_w1 _ _ (by omega)).trans (by go_simp) | go_simp)
          have l0_3_w1 : w1.frozen? ⟨w.heap.size, 3, none⟩ = false := (by first | exact (f_w1 _ _ (by omega)).trans (by go_simp) | go_simp)
          clear c_w1 f_w1
          go_wp2_with fail
          refine (I2.out _).mono ?_
          rintro _ w2 ⟨rfl, b_w2⟩
          obtain ⟨c_w2, f_w2, z_w2⟩ := bfacts b_w2 (by first | (simp; rfl) | rfl)
          have y0_w2 : w.heap.size < w2.heap.size := (by omega)
          have k0_0_w2 : w2.cell? ⟨w.heap.size, 0, none⟩ = some (.int .i64 (p.x.lo)) := (by first | exact (c_w2 _ _ (by omega)).trans (by go_simp) | go_simp)
          have l0_0_w2 : w2.frozen? ⟨w.heap.size, 0, none⟩ = false := (by first | exact (f_w2 _ _ (by omega)).trans (by go_simp) | go_simp)
          have k0_1_w2 : w2.cell? ⟨w.heap.size, 1, none⟩ = some (.int .i64 (p.x.hi)) := (by first | exact (c_w2 _ _ (by omega)).trans (by go_simp) | go_simp)
          have l0_1_w2 : w2.frozen? ⟨w.heap.size, 1, none⟩ = false := (by first | exact (f_w2 _ _ (by omega)).trans (by go_simp) | go_simp)
          have k0_2_w2 : w2.cell? ⟨w.heap.size, 2, none⟩ = some (.int .i64 (p.y.lo)) := (by first | exact (c_w2 _ _ (by omega)).trans (by go_simp) | go_simp)
          have l0_2_w2 : w2.frozen? ⟨w.heap.size, 2, none⟩ = false := (by first | exact (f_w2 _ _ (by omega)).trans (by go_simp) | go_simp)
          have k0_3_w2 : w2.cell? ⟨w.heap.size, 3, none⟩ = some (.int .i64 (p.y.hi)) := (by first | exact (c_w2 _ _ (by omega)).trans (by go_simp) | go_simp)
          have l0_3_w2 : w2.frozen? ⟨w.heap.size, 3, none⟩ = false := (by first | exact (f_w2 _ _ (by omega)).trans (by go_simp) | go_simp)
          clear c_w2 f_w2
          go_wp2
          go_ret
          exact ⟨ret_bool (by rw [R.out, u1, u2]; rfl), by (repeat' (first | with_reducible exact Below.refl _ _ | with_reducible refine Below.setCell ?_ ?_ _ | with_reducible refine Below.drew ?_ | with_reducible refine below_drewN ?_ _ | with_reducible refine Below.alloc ?_ ?_ _ | with_reducible refine below_step b_w2 ?_ ?_ | with_reducible refine below_step b_w1 ?_ ?_ | omega | (simp; done) | (simp; omega)))⟩
      · have u1 : decide (p.x.lo ≤ p.x.hi) = false := decide_eq_false t1
        go_enter Tryz.func185, Tryz.ntmps185
        go_wp2_with fail
        refine (I1.out _).mono ?_
        rintro _ w1 ⟨rfl, b_w1⟩
        obtain ⟨c_w1, f_w1, z_w1⟩ := bfacts b_w1 (by first | (simp; rfl) | rfl)
        have y0_w1 : w.heap.size < w1.heap.size := (by omega)
        have k0_0_w1 : w1.cell? ⟨w.heap.size, 0, none⟩ = some (.int .i64 (p.x.lo)) := (by first | exact (c_w1 _ _ (by omega)).trans (by go_simp) | go_simp)
        have l0_0_w1 : w1.frozen? ⟨w.heap.size, 0, none⟩ = false := (by first | exact (f_w1 _ _ (by omega)).trans (by go_simp) | go_simp)
        have k0_1_w1 : w1.cell? ⟨w.heap.size, 1, none⟩ = some (.int .i64 (p.x.hi)) := (by first | exact (c_w1 _ _ (by omega)).trans (by go_simp) | go_simp)
        have l0_1_w1 : w1.frozen? ⟨w.heap.size, 1, none⟩ = false := (by first | exact (f_w1 _ _ (by omega)).trans (by go_simp) | go_simp)
        have k0_2_w1 : w1.cell? ⟨w.heap.size, 2, none⟩ = some (.int .i64 (p.y.lo)) := (by first | exact (c_w1 _ _ (by omega)).trans (by go_simp) | go_simp)
        have l0_2_w1 : w1.frozen? ⟨w.heap.size, 2, none⟩ = false := (by first | exact (f_w1 _ _ (by omega)).trans (by go_simp) | go_simp)
        have k0_3_w1 : w1.cell? ⟨w.heap.size, 3, none⟩ = some (.int .i64 (p.y.hi)) := (by first | exact (c_w1 _ _ (by omega)).trans (by go_simp) | go_simp)
        have l0_3_w1 : w1.frozen? ⟨w.heap.size, 3, none⟩ = false := (by first | exact (f_w1 _ _ (by omega)).trans (by go_simp) | go_simp)
        clear c_w1 f_w1
        go_wp2_with fail
        refine (I2.out _).mono ?_
        rintro _ w2 ⟨rfl, b_w2⟩
        obtain ⟨c_w2, f_w2, z_w2⟩ := bfacts b_w2 (by first | (simp; rfl) | rfl)
        have y0_w2 : w.heap.size < w2.heap.size := (by omega)
        have k0_0_w2 : w2.cell? ⟨w.heap.size, 0, none⟩ = some (.int .i64 (p.x.lo)) := (by first | exact (c_w2 _ _ (by omega)).trans (by go_simp) | go_simp)
        have l0_0_w2 : w2.frozen? ⟨w.heap.size, 0, none⟩ = false := (by first | exact (f_w2 _ _ (by omega)).trans (by go_simp) | go_simp)
        have k0_1_w2 : w2.cell? ⟨w.heap.size, 1, none⟩ = some (.int .i64 (p.x.hi)) := (by first | exact (c_w2 _ _ (by omega)).trans (by go_simp) | go_simp)
        have l0_1_w2 : w2.frozen? ⟨w.heap.size, 1, none⟩ = false := (by first | exact (f_w2 _ _ (by omega)).trans (by go_simp) | go_simp)
        have k0_2_w2 : w2.cell? ⟨w.heap.size, 2, none⟩ = some (.int .i64 (p.y.lo)) := (by first | exact (c_w2 _ _ (by omega)).trans (by go_simp) | go_simp)
        have l0_2_w2 : w2.frozen? ⟨w.heap.size, 2, none⟩ = false := (by first | exact (f_w2 _ _ (by omega)).trans (by go_simp) | go_simp)
        have k0_3_w2 : w2.cell? ⟨w.heap.size, 3, none⟩ = some (.int .i64 (p.y.hi)) := (by first | exact (c_w2 _ _ (by omega)).trans (by go_simp) | go_simp)
        have l0_3_w2 : w2.frozen? ⟨w.heap.size, 3, none⟩ = false := (by first | exact (f_w2 _ _ (by omega)).trans (by go_simp) | go_simp)
        clear c_w2 f_w2
        go_wp2
        go_ret
        exact ⟨ret_bool (by rw [R.out, u1]; rfl), by (repeat' (first | with_reducible exact Below.refl _ _ | with_reducible refine Below.setCell ?_ ?_ _ | with_reducible refine Below.drew ?_ | with_reducible refine below_drewN ?_ _ | with_reducible refine Below.alloc ?_ ?_ _ | with_reducible refine below_step b_w2 ?_ ?_ | with_reducible refine below_step b_w1 ?_ ?_ | omega | (simp; done) | (simp; omega)))⟩

set_option maxHeartbeats 400000 in
theorem isHeight_any (a : Int) (w : World) :
    Calls Tryz.prog 143 #[.int .i64 a] w fun e w' => e = .returned (.bool (heB a)) ∧ w = w' := by
  go_enter Tryz.func143, Tryz.ntmps143
  go_wp2_with (go_at_call 61; refine (in_any _ _ _ _).mono ?_; rintro e w' ⟨rfl, rfl⟩)
  go_ret
  exact ⟨rfl, rfl⟩

set_option maxHeartbeats 4000000 in
theorem placeOf_no (h : Int) (p : V3) (g cap : Nat) (w : World) (hg : g < w.heap.size) (h0 : 1 ≤ h) (h1 : h ≤ 10000) (x0 : -20000000 ≤ p.x.lo) (x1 : p.x.lo ≤ p.x.hi) (x2 : p.x.hi ≤ 20000000) (y0 : -20000000 ≤ p.y.lo) (y1 : p.y.lo ≤ p.y.hi) (y2 : p.y.hi ≤ 20000000) (z0 : 0 < p.z.lo) (z1 : p.z.lo ≤ p.z.hi) (z2 : p.z.hi ≤ 20000000)
    (k0 : w.cell? ⟨g, 0, none⟩ = some (.int .i64 p.x.lo)) (k1 : w.cell? ⟨g, 1, none⟩ = some (.int .i64 p.x.hi)) (k2 : w.cell? ⟨g, 2, none⟩ = some (.int .i64 p.y.lo)) (k3 : w.cell? ⟨g, 3, none⟩ = some (.int .i64 p.y.hi)) (k4 : w.cell? ⟨g, 4, none⟩ = some (.int .i64 p.z.lo)) (k5 : w.cell? ⟨g, 5, none⟩ = some (.int .i64 p.z.hi))
    (k : plB (spP h p) = false) :
    Calls Tryz.prog 155 #[.int .i64 h, .slice (some ⟨g, 0, none⟩) 3 cap] w fun e w' => e = .returned (.tuple #[(.agg #[.int .i64 (0), .int .i64 (0), .int .i64 (0), .int .i64 (0)]), .int .i64 3]) ∧ Below w.heap.size w w' := by
  have hgw : ¬ g = w.heap.size := by omega
  cases c1 : ivB (diI p.x p.z).lo (diI p.x p.z).hi
  · have ow := fun w => onWall_no h p.x p.z w x0 x1 x2 z0 z1 z2 c1
    have OW := Lib.hid ow; clear ow c1 k
    go_enter Tryz.func155, Tryz.ntmps155
    go_wp2_with fail
    refine wp_region_bx2 13 none (.cells #[] 0) (fun w' => w'.cell? ⟨g, 0, none⟩ = some (.int .i64 (p.x.lo)) ∧ w'.cell? ⟨g, 1, none⟩ = some (.int .i64 (p.x.hi)) ∧ w'.cell? ⟨g, 2, none⟩ = some (.int .i64 (p.y.lo)) ∧ w'.cell? ⟨g, 3, none⟩ = some (.int .i64 (p.y.hi)) ∧ w'.cell? ⟨g, 4, none⟩ = some (.int .i64 (p.z.lo)) ∧ w'.cell? ⟨g, 5, none⟩ = some (.int .i64 (p.z.hi))) (by kernel_rfl) (by kernel_rfl) (by rfl) (fun b hb => by cases hb) (fun w' hw' => ?_) (fun hS => ?_)
    focus exact ⟨hw'.cell (a := ⟨g, 0, none⟩) (by go_simp) (by first | (simp; done) | (simp; omega)), hw'.cell (a := ⟨g, 1, none⟩) (by go_simp) (by first | (simp; done) | (simp; omega)), hw'.cell (a := ⟨g, 2, none⟩) (by go_simp) (by first | (simp; done) | (simp; omega)), hw'.cell (a := ⟨g, 3, none⟩) (by go_simp) (by first | (simp; done) | (simp; omega)), hw'.cell (a := ⟨g, 4, none⟩) (by go_simp) (by first | (simp; done) | (simp; omega)), hw'.cell (a := ⟨g, 5, none⟩) (by go_simp) (by first | (simp; done) | (simp; omega))⟩
    have HS := Lib.hid hS; clear hS
    simp only [List.take_succ_cons, List.take_zero, List.drop_succ_cons, List.drop_zero]
    repeat (first | (refine wpBx_op ?_ (fun K hK => ?_); (focus exact fun _ => rfl); apply Exists.intro; refine ⟨fun γ w' hw' => ?_, ?_⟩; (focus (first | (go_simp; first | (go_at_call 184; exact OW.out _)) | (obtain ⟨kr0, kr1, kr2, kr3, kr4, kr5⟩ := HS.out w' hw'; go_simp; rfl))); go_simp; refine hK _ ?_; clear hK K) | (refine wpBx_mk (fun g => .pointer (some ⟨g, 0, none⟩)) ?_ (fun K hK => ?_); (focus exact fun _ => rfl); apply Exists.intro; refine ⟨fun γ w' hw' => ?_, ?_⟩; (focus (go_simp; first | rfl | exact ⟨rfl, rfl⟩ | trivial)); go_simp; refine hK _ _ ?_; clear hK K) | (apply wpBx_put 11; (case hm => (repeat (first | exact List.mem_append_right _ (List.mem_singleton.2 rfl) | refine List.mem_append_left _ ?_))); (case hd => kernel_rfl); (case hp => decide); (case hq => decide); (case hw => (focus exact fun _ => rfl)); intro K hK; apply Exists.intro; refine ⟨fun γ g w' hg hw' hx => ?_, ?_⟩; (focus (have HX := Lib.hid hx; obtain ⟨cx, fx, zx⟩ := blk_facts hx; clear hx; go_simp; (repeat apply PutW.set); exact PutW.refl HX.out)); go_simp; refine hK _ _ ?_; clear hK K; (try simp only [List.map_append, List.map_cons, List.map_nil, List.map, Nat.reduceEqDiff, if_true, if_false, ite_true, ite_false, reduceIte, List.nil_append])) | (refine wpBx_no ?_ (fun K hK => ?_); (focus exact fun _ => rfl); go_simp; refine hK _ ?_; clear hK K))
    refine wpBx_end ?_
    intro γ w1 gr_w1 ho_w1
    refine TailX_cons (fun g0_w1 e0_w1 h0_w1 k0_w1 n0_w1 => TailX_nil ?_)
    (try simp only [Nat.zero_add, Nat.reduceAdd] at e0_w1)
    (try simp only [e0_w1])
    clear e0_w1
    clear γ
    clear ho_w1
    have b_w1 := below_of_grown gr_w1
    clear gr_w1
    obtain ⟨c_w1, f_w1, z_w1⟩ := bfacts b_w1 (by first | (simp; rfl) | rfl)
    have hk0_w1 := Lib.hid k0_w1
    obtain ⟨cg0_w1, fg0_w1, zg0_w1⟩ := blk_facts k0_w1
    (try simp at h0_w1)
    (try simp at n0_w1)
    clear k0_w1
    have y0_w1 : w.heap.size < w1.heap.size := (by omega)
    have y1_w1 : g0_w1 < w1.heap.size := (by omega)
    have k0_0_w1 : w1.cell? ⟨w.heap.size, 0, none⟩ = some (.int .i64 (0)) := (by first | exact (c_w1 _ _ (by omega)).trans (by go_simp) | go_simp)
    have l0_0_w1 : w1.frozen? ⟨w.heap.size, 0, none⟩ = false := (by first | exact (f_w1 _ _ (by omega)).trans (by go_simp) | go_simp)
    have k0_1_w1 : w1.cell? ⟨w.heap.size, 1, none⟩ = some (.int .i64 (0)) := (by first | exact (c_w1 _ _ (by omega)).trans (by go_simp) | go_simp)
    have l0_1_w1 : w1.frozen? ⟨w.heap.size, 1, none⟩ = false := (by first | exact (f_w1 _ _ (by omega)).trans (by go_simp) | go_simp)
    have k0_2_w1 : w1.cell? ⟨w.heap.size, 2, none⟩ = some (.int .i64 (0)) := (by first | exact (c_w1 _ _ (by omega)).trans (by go_simp) | go_simp)
    have l0_2_w1 : w1.frozen? ⟨w.heap.size, 2, none⟩ = false := (by first | exact (f_w1 _ _ (by omega)).trans (by go_simp) | go_simp)
    have k0_3_w1 : w1.cell? ⟨w.heap.size, 3, none⟩ = some (.int .i64 (0)) := (by first | exact (c_w1 _ _ (by omega)).trans (by go_simp) | go_simp)
    have l0_3_w1 : w1.frozen? ⟨w.heap.size, 3, none⟩ = false := (by first | exact (f_w1 _ _ (by omega)).trans (by go_simp) | go_simp)
    have k1_0_w1 : w1.cell? ⟨g0_w1, 0, none⟩ = some (.int .i64 (0)) := (by first | exact (c_w1 _ _ (by omega)).trans (by go_simp) | go_simp)
    have l1_0_w1 : w1.frozen? ⟨g0_w1, 0, none⟩ = false := (by first | exact (f_w1 _ _ (by omega)).trans (by go_simp) | go_simp)
    have k1_1_w1 : w1.cell? ⟨g0_w1, 1, none⟩ = some (.int .i64 (0)) := (by first | exact (c_w1 _ _ (by omega)).trans (by go_simp) | go_simp)
    have l1_1_w1 : w1.frozen? ⟨g0_w1, 1, none⟩ = false := (by first | exact (f_w1 _ _ (by omega)).trans (by go_simp) | go_simp)
    clear c_w1 f_w1 cg0_w1 fg0_w1
    clear HS
    go_simp
    go_wp2
    exact bodyPost_ret (v := .tuple #[(.agg #[.int .i64 (0), .int .i64 (0), .int .i64 (0), .int .i64 (0)]), .int .i64 3]) (by simp [results, Tryz.results155, go_sem, *]) rfl ⟨rfl, by (repeat' (first | with_reducible exact Below.refl _ _ | with_reducible refine Below.setCell ?_ ?_ _ | with_reducible refine Below.drew ?_ | with_reducible refine below_drewN ?_ _ | with_reducible refine Below.alloc ?_ ?_ _ | with_reducible refine below_step b_w1 ?_ ?_ | omega | (simp; done) | (simp; omega)))⟩
  · have ow := fun w => onWall_yes h p.x p.z w h0 h1 x0 x1 x2 z0 z1 z2 c1
    cases c2 : ivB (diI p.y p.z).lo (diI p.y p.z).hi
    · have ox := fun w => onWall_no h p.y p.z w y0 y1 y2 z0 z1 z2 c2
      generalize faI h (diI p.x p.z) = f at ow
      have OW := Lib.hid ow; have OX := Lib.hid ox; clear ow ox c1 c2 k
      go_enter Tryz.func155, Tryz.ntmps155
      go_wp2_with fail
      refine wp_region_bx2 13 none (.cells #[] 0) (fun w' => w'.cell? ⟨g, 0, none⟩ = some (.int .i64 (p.x.lo)) ∧ w'.cell? ⟨g, 1, none⟩ = some (.int .i64 (p.x.hi)) ∧ w'.cell? ⟨g, 2, none⟩ = some (.int .i64 (p.y.lo)) ∧ w'.cell? ⟨g, 3, none⟩ = some (.int .i64 (p.y.hi)) ∧ w'.cell? ⟨g, 4, none⟩ = some (.int .i64 (p.z.lo)) ∧ w'.cell? ⟨g, 5, none⟩ = some (.int .i64 (p.z.hi))) (by kernel_rfl) (by kernel_rfl) (by rfl) (fun b hb => by cases hb) (fun w' hw' => ?_) (fun hS => ?_)
      focus exact ⟨hw'.cell (a := ⟨g, 0, none⟩) (by go_simp) (by first | (simp; done) | (simp; omega)), hw'.cell (a := ⟨g, 1, none⟩) (by go_simp) (by first | (simp; done) | (simp; omega)), hw'.cell (a := ⟨g, 2, none⟩) (by go_simp) (by first | (simp; done) | (simp; omega)), hw'.cell (a := ⟨g, 3, none⟩) (by go_simp) (by first | (simp; done) | (simp; omega)), hw'.cell (a := ⟨g, 4, none⟩) (by go_simp) (by first | (simp; done) | (simp; omega)), hw'.cell (a := ⟨g, 5, none⟩) (by go_simp) (by first | (simp; done) | (simp; omega))⟩
      have HS := Lib.hid hS; clear hS
      simp only [List.take_succ_cons, List.take_zero, List.drop_succ_cons, List.drop_zero]
      repeat (first | (refine wpBx_op ?_ (fun K hK => ?_); (focus exact fun _ => rfl); apply Exists.intro; refine ⟨fun γ w' hw' => ?_, ?_⟩; (focus (first | (go_simp; first | (go_at_call 184; exact OW.out _)) | (obtain ⟨kr0, kr1, kr2, kr3, kr4, kr5⟩ := HS.out w' hw'; go_simp; rfl))); go_simp; refine hK _ ?_; clear hK K) | (refine wpBx_mk (fun g => .pointer (some ⟨g, 0, none⟩)) ?_ (fun K hK => ?_); (focus exact fun _ => rfl); apply Exists.intro; refine ⟨fun γ w' hw' => ?_, ?_⟩; (focus (go_simp; first | rfl | exact ⟨rfl, rfl⟩ | trivial)); go_simp; refine hK _ _ ?_; clear hK K) | (apply wpBx_put 11; (case hm => (repeat (first | exact List.mem_append_right _ (List.mem_singleton.2 rfl) | refine List.mem_append_left _ ?_))); (case hd => kernel_rfl); (case hp => decide); (case hq => decide); (case hw => (focus exact fun _ => rfl)); intro K hK; apply Exists.intro; refine ⟨fun γ g w' hg hw' hx => ?_, ?_⟩; (focus (have HX := Lib.hid hx; obtain ⟨cx, fx, zx⟩ := blk_facts hx; clear hx; go_simp; (repeat apply PutW.set); exact PutW.refl HX.out)); go_simp; refine hK _ _ ?_; clear hK K; (try simp only [List.map_append, List.map_cons, List.map_nil, List.map, Nat.reduceEqDiff, if_true, if_false, ite_true, ite_false, reduceIte, List.nil_append])) | (refine wpBx_no ?_ (fun K hK => ?_); (focus exact fun _ => rfl); go_simp; refine hK _ ?_; clear hK K))
      refine wpBx_end ?_
      intro γ w1 gr_w1 ho_w1
      refine TailX_cons (fun g0_w1 e0_w1 h0_w1 k0_w1 n0_w1 => TailX_nil ?_)
      (try simp only [Nat.zero_add, Nat.reduceAdd] at e0_w1)
      (try simp only [e0_w1])
      clear e0_w1
      clear γ
      clear ho_w1
      have b_w1 := below_of_grown gr_w1
      clear gr_w1
      obtain ⟨c_w1, f_w1, z_w1⟩ := bfacts b_w1 (by first | (simp; rfl) | rfl)
      have hk0_w1 := Lib.hid k0_w1
      obtain ⟨cg0_w1, fg0_w1, zg0_w1⟩ := blk_facts k0_w1
      (try simp at h0_w1)
      (try simp at n0_w1)
      clear k0_w1
      have y0_w1 : w.heap.size < w1.heap.size := (by omega)
      have y1_w1 : g < w1.heap.size := (by omega)
      have y2_w1 : g0_w1 < w1.heap.size := (by omega)
      have k0_0_w1 : w1.cell? ⟨w.heap.size, 0, none⟩ = some (.int .i64 (0)) := (by first | exact (c_w1 _ _ (by omega)).trans (by go_simp) | go_simp)
      have l0_0_w1 : w1.frozen? ⟨w.heap.size, 0, none⟩ = false := (by first | exact (f_w1 _ _ (by omega)).trans (by go_simp) | go_simp)
      have k0_1_w1 : w1.cell? ⟨w.heap.size, 1, none⟩ = some (.int .i64 (0)) := (by first | exact (c_w1 _ _ (by omega)).trans (by go_simp) | go_simp)
      have l0_1_w1 : w1.frozen? ⟨w.heap.size, 1, none⟩ = false := (by first | exact (f_w1 _ _ (by omega)).trans (by go_simp) | go_simp)
      have k0_2_w1 : w1.cell? ⟨w.heap.size, 2, none⟩ = some (.int .i64 (0)) := (by first | exact (c_w1 _ _ (by omega)).trans (by go_simp) | go_simp)
      have l0_2_w1 : w1.frozen? ⟨w.heap.size, 2, none⟩ = false := (by first | exact (f_w1 _ _ (by omega)).trans (by go_simp) | go_simp)
      have k0_3_w1 : w1.cell? ⟨w.heap.size, 3, none⟩ = some (.int .i64 (0)) := (by first | exact (c_w1 _ _ (by omega)).trans (by go_simp) | go_simp)
      have l0_3_w1 : w1.frozen? ⟨w.heap.size, 3, none⟩ = false := (by first | exact (f_w1 _ _ (by omega)).trans (by go_simp) | go_simp)
      have k1_0_w1 : w1.cell? ⟨g, 0, none⟩ = some (.int .i64 (p.x.lo)) := (by first | exact (c_w1 _ _ (by omega)).trans (by go_simp) | go_simp)
      have k1_1_w1 : w1.cell? ⟨g, 1, none⟩ = some (.int .i64 (p.x.hi)) := (by first | exact (c_w1 _ _ (by omega)).trans (by go_simp) | go_simp)
      have k1_2_w1 : w1.cell? ⟨g, 2, none⟩ = some (.int .i64 (p.y.lo)) := (by first | exact (c_w1 _ _ (by omega)).trans (by go_simp) | go_simp)
      have k1_3_w1 : w1.cell? ⟨g, 3, none⟩ = some (.int .i64 (p.y.hi)) := (by first | exact (c_w1 _ _ (by omega)).trans (by go_simp) | go_simp)
      have k1_4_w1 : w1.cell? ⟨g, 4, none⟩ = some (.int .i64 (p.z.lo)) := (by first | exact (c_w1 _ _ (by omega)).trans (by go_simp) | go_simp)
      have k1_5_w1 : w1.cell? ⟨g, 5, none⟩ = some (.int .i64 (p.z.hi)) := (by first | exact (c_w1 _ _ (by omega)).trans (by go_simp) | go_simp)
      have k2_0_w1 : w1.cell? ⟨g0_w1, 0, none⟩ = some (.int .i64 (f.lo)) := (by first | exact (c_w1 _ _ (by omega)).trans (by go_simp) | go_simp)
      have l2_0_w1 : w1.frozen? ⟨g0_w1, 0, none⟩ = false := (by first | exact (f_w1 _ _ (by omega)).trans (by go_simp) | go_simp)
      have k2_1_w1 : w1.cell? ⟨g0_w1, 1, none⟩ = some (.int .i64 (f.hi)) := (by first | exact (c_w1 _ _ (by omega)).trans (by go_simp) | go_simp)
      have l2_1_w1 : w1.frozen? ⟨g0_w1, 1, none⟩ = false := (by first | exact (f_w1 _ _ (by omega)).trans (by go_simp) | go_simp)
      clear c_w1 f_w1 cg0_w1 fg0_w1
      clear HS
      go_simp
      go_wp2_with fail
      refine wp_region_bx2 13 none (.cells #[] 0) (fun w' => w'.cell? ⟨g, 0, none⟩ = some (.int .i64 (p.x.lo)) ∧ w'.cell? ⟨g, 1, none⟩ = some (.int .i64 (p.x.hi)) ∧ w'.cell? ⟨g, 2, none⟩ = some (.int .i64 (p.y.lo)) ∧ w'.cell? ⟨g, 3, none⟩ = some (.int .i64 (p.y.hi)) ∧ w'.cell? ⟨g, 4, none⟩ = some (.int .i64 (p.z.lo)) ∧ w'.cell? ⟨g, 5, none⟩ = some (.int .i64 (p.z.hi))) (by kernel_rfl) (by kernel_rfl) (by rfl) (fun b hb => by cases hb) (fun w' hw' => ?_) (fun hS => ?_)
      focus exact ⟨hw'.cell (a := ⟨g, 0, none⟩) (by go_simp) (by first | (simp; done) | (simp; omega)), hw'.cell (a := ⟨g, 1, none⟩) (by go_simp) (by first | (simp; done) | (simp; omega)), hw'.cell (a := ⟨g, 2, none⟩) (by go_simp) (by first | (simp; done) | (simp; omega)), hw'.cell (a := ⟨g, 3, none⟩) (by go_simp) (by first | (simp; done) | (simp; omega)), hw'.cell (a := ⟨g, 4, none⟩) (by go_simp) (by first | (simp; done) | (simp; omega)), hw'.cell (a := ⟨g, 5, none⟩) (by go_simp) (by first | (simp; done) | (simp; omega))⟩
      have HS := Lib.hid hS; clear hS
      simp only [List.take_succ_cons, List.take_zero, List.drop_succ_cons, List.drop_zero]
      repeat (first | (refine wpBx_op ?_ (fun K hK => ?_); (focus exact fun _ => rfl); apply Exists.intro; refine ⟨fun γ w' hw' => ?_, ?_⟩; (focus (first | (go_simp; first | (go_at_call 184; exact OX.out _)) | (obtain ⟨kr0, kr1, kr2, kr3, kr4, kr5⟩ := HS.out w' hw'; go_simp; rfl))); go_simp; refine hK _ ?_; clear hK K) | (refine wpBx_mk (fun g => .pointer (some ⟨g, 0, none⟩)) ?_ (fun K hK => ?_); (focus exact fun _ => rfl); apply Exists.intro; refine ⟨fun γ w' hw' => ?_, ?_⟩; (focus (go_simp; first | rfl | exact ⟨rfl, rfl⟩ | trivial)); go_simp; refine hK _ _ ?_; clear hK K) | (apply wpBx_put 11; (case hm => (repeat (first | exact List.mem_append_right _ (List.mem_singleton.2 rfl) | refine List.mem_append_left _ ?_))); (case hd => kernel_rfl); (case hp => decide); (case hq => decide); (case hw => (focus exact fun _ => rfl)); intro K hK; apply Exists.intro; refine ⟨fun γ g w' hg hw' hx => ?_, ?_⟩; (focus (have HX := Lib.hid hx; obtain ⟨cx, fx, zx⟩ := blk_facts hx; clear hx; go_simp; (repeat apply PutW.set); exact PutW.refl HX.out)); go_simp; refine hK _ _ ?_; clear hK K; (try simp only [List.map_append, List.map_cons, List.map_nil, List.map, Nat.reduceEqDiff, if_true, if_false, ite_true, ite_false, reduceIte, List.nil_append])) | (refine wpBx_no ?_ (fun K hK => ?_); (focus exact fun _ => rfl); go_simp; refine hK _ ?_; clear hK K))
      refine wpBx_end ?_
      intro γ w2 gr_w2 ho_w2
      refine TailX_cons (fun g0_w2 e0_w2 h0_w2 k0_w2 n0_w2 => TailX_nil ?_)
      (try simp only [Nat.zero_add, Nat.reduceAdd] at e0_w2)
      (try simp only [e0_w2])
      clear e0_w2
      clear γ
      clear ho_w2
      have b_w2 := below_of_grown gr_w2
      clear gr_w2
      obtain ⟨c_w2, f_w2, z_w2⟩ := bfacts b_w2 (by first | (simp; rfl) | rfl)
      have hk0_w2 := Lib.hid k0_w2
      obtain ⟨cg0_w2, fg0_w2, zg0_w2⟩ := blk_facts k0_w2
      (try simp at h0_w2)
      (try simp at n0_w2)
      clear k0_w2
      have y0_w2 : w.heap.size < w2.heap.size := (by omega)
      have y1_w2 : g0_w1 < w2.heap.size := (by omega)
      have y2_w2 : g0_w2 < w2.heap.size := (by omega)
      have k0_0_w2 : w2.cell? ⟨w.heap.size, 0, none⟩ = some (.int .i64 (0)) := (by first | exact (c_w2 _ _ (by omega)).trans (by go_simp) | go_simp)
      have l0_0_w2 : w2.frozen? ⟨w.heap.size, 0, none⟩ = false := (by first | exact (f_w2 _ _ (by omega)).trans (by go_simp) | go_simp)
      have k0_1_w2 : w2.cell? ⟨w.heap.size, 1, none⟩ = some (.int .i64 (0)) := (by first | exact (c_w2 _ _ (by omega)).trans (by go_simp) | go_simp)
      have l0_1_w2 : w2.frozen? ⟨w.heap.size, 1, none⟩ = false := (by first | exact (f_w2 _ _ (by omega)).trans (by go_simp) | go_simp)
      have k0_2_w2 : w2.cell? ⟨w.heap.size, 2, none⟩ = some (.int .i64 (0)) := (by first | exact (c_w2 _ _ (by omega)).trans (by go_simp) | go_simp)
      have l0_2_w2 : w2.frozen? ⟨w.heap.size, 2, none⟩ = false := (by first | exact (f_w2 _ _ (by omega)).trans (by go_simp) | go_simp)
      have k0_3_w2 : w2.cell? ⟨w.heap.size, 3, none⟩ = some (.int .i64 (0)) := (by first | exact (c_w2 _ _ (by omega)).trans (by go_simp) | go_simp)
      have l0_3_w2 : w2.frozen? ⟨w.heap.size, 3, none⟩ = false := (by first | exact (f_w2 _ _ (by omega)).trans (by go_simp) | go_simp)
      have k1_0_w2 : w2.cell? ⟨g0_w1, 0, none⟩ = some (.int .i64 (f.lo)) := (by first | exact (c_w2 _ _ (by omega)).trans (by go_simp) | go_simp)
      have l1_0_w2 : w2.frozen? ⟨g0_w1, 0, none⟩ = false := (by first | exact (f_w2 _ _ (by omega)).trans (by go_simp) | go_simp)
      have k1_1_w2 : w2.cell? ⟨g0_w1, 1, none⟩ = some (.int .i64 (f.hi)) := (by first | exact (c_w2 _ _ (by omega)).trans (by go_simp) | go_simp)
      have l1_1_w2 : w2.frozen? ⟨g0_w1, 1, none⟩ = false := (by first | exact (f_w2 _ _ (by omega)).trans (by go_simp) | go_simp)
      have k2_0_w2 : w2.cell? ⟨g0_w2, 0, none⟩ = some (.int .i64 (0)) := (by first | exact (c_w2 _ _ (by omega)).trans (by go_simp) | go_simp)
      have l2_0_w2 : w2.frozen? ⟨g0_w2, 0, none⟩ = false := (by first | exact (f_w2 _ _ (by omega)).trans (by go_simp) | go_simp)
      have k2_1_w2 : w2.cell? ⟨g0_w2, 1, none⟩ = some (.int .i64 (0)) := (by first | exact (c_w2 _ _ (by omega)).trans (by go_simp) | go_simp)
      have l2_1_w2 : w2.frozen? ⟨g0_w2, 1, none⟩ = false := (by first | exact (f_w2 _ _ (by omega)).trans (by go_simp) | go_simp)
      clear c_w2 f_w2 cg0_w2 fg0_w2
      clear HS
      go_simp
      go_wp2
      exact bodyPost_ret (v := .tuple #[(.agg #[.int .i64 (0), .int .i64 (0), .int .i64 (0), .int .i64 (0)]), .int .i64 3]) (by simp [results, Tryz.results155, go_sem, *]) rfl ⟨rfl, by (repeat' (first | with_reducible exact Below.refl _ _ | with_reducible refine Below.setCell ?_ ?_ _ | with_reducible refine Below.drew ?_ | with_reducible refine below_drewN ?_ _ | with_reducible refine Below.alloc ?_ ?_ _ | with_reducible refine below_step b_w2 ?_ ?_ | with_reducible refine below_step b_w1 ?_ ?_ | omega | (simp; done) | (simp; omega)))⟩
    · have ox := fun w => onWall_yes h p.y p.z w h0 h1 y0 y1 y2 z0 z1 z2 c2
      have ip := fun w => IsPlace_any (spP h p) w
      rw [k] at ip
      unfold spP at ip
      generalize faI h (diI p.x p.z) = f at ow ip
      generalize faI h (diI p.y p.z) = f' at ox ip
      have OW := Lib.hid ow; have OX := Lib.hid ox; have IP := Lib.hid ip; clear ow ox ip c1 c2 k
      go_enter Tryz.func155, Tryz.ntmps155
      go_wp2_with fail
      refine wp_region_bx2 13 none (.cells #[] 0) (fun w' => w'.cell? ⟨g, 0, none⟩ = some (.int .i64 (p.x.lo)) ∧ w'.cell? ⟨g, 1, none⟩ = some (.int .i64 (p.x.hi)) ∧ w'.cell? ⟨g, 2, none⟩ = some (.int .i64 (p.y.lo)) ∧ w'.cell? ⟨g, 3, none⟩ = some (.int .i64 (p.y.hi)) ∧ w'.cell? ⟨g, 4, none⟩ = some (.int .i64 (p.z.lo)) ∧ w'.cell? ⟨g, 5, none⟩ = some (.int .i64 (p.z.hi))) (by kernel_rfl) (by kernel_rfl) (by rfl) (fun b hb => by cases hb) (fun w' hw' => ?_) (fun hS => ?_)
      focus exact ⟨hw'.cell (a := ⟨g, 0, none⟩) (by go_simp) (by first | (simp; done) | (simp; omega)), hw'.cell (a := ⟨g, 1, none⟩) (by go_simp) (by first | (simp; done) | (simp; omega)), hw'.cell (a := ⟨g, 2, none⟩) (by go_simp) (by first | (simp; done) | (simp; omega)), hw'.cell (a := ⟨g, 3, none⟩) (by go_simp) (by first | (simp; done) | (simp; omega)), hw'.cell (a := ⟨g, 4, none⟩) (by go_simp) (by first | (simp; done) | (simp; omega)), hw'.cell (a := ⟨g, 5, none⟩) (by go_simp) (by first | (simp; done) | (simp; omega))⟩
      have HS := Lib.hid hS; clear hS
      simp only [List.take_succ_cons, List.take_zero, List.drop_succ_cons, List.drop_zero]
      repeat (first | (refine wpBx_op ?_ (fun K hK => ?_); (focus exact fun _ => rfl); apply Exists.intro; refine ⟨fun γ w' hw' => ?_, ?_⟩; (focus (first | (go_simp; first | (go_at_call 184; exact OW.out _)) | (obtain ⟨kr0, kr1, kr2, kr3, kr4, kr5⟩ := HS.out w' hw'; go_simp; rfl))); go_simp; refine hK _ ?_; clear hK K) | (refine wpBx_mk (fun g => .pointer (some ⟨g, 0, none⟩)) ?_ (fun K hK => ?_); (focus exact fun _ => rfl); apply Exists.intro; refine ⟨fun γ w' hw' => ?_, ?_⟩; (focus (go_simp; first | rfl | exact ⟨rfl, rfl⟩ | trivial)); go_simp; refine hK _ _ ?_; clear hK K) | (apply wpBx_put 11; (case hm => (repeat (first | exact List.mem_append_right _ (List.mem_singleton.2 rfl) | refine List.mem_append_left _ ?_))); (case hd => kernel_rfl); (case hp => decide); (case hq => decide); (case hw => (focus exact fun _ => rfl)); intro K hK; apply Exists.intro; refine ⟨fun γ g w' hg hw' hx => ?_, ?_⟩; (focus (have HX := Lib.hid hx; obtain ⟨cx, fx, zx⟩ := blk_facts hx; clear hx; go_simp; (repeat apply PutW.set); exact PutW.refl HX.out)); go_simp; refine hK _ _ ?_; clear hK K; (try simp only [List.map_append, List.map_cons, List.map_nil, List.map, Nat.reduceEqDiff, if_true, if_false, ite_true, ite_false, reduceIte, List.nil_append])) | (refine wpBx_no ?_ (fun K hK => ?_); (focus exact fun _ => rfl); go_simp; refine hK _ ?_; clear hK K))
      refine wpBx_end ?_
      intro γ w1 gr_w1 ho_w1
      refine TailX_cons (fun g0_w1 e0_w1 h0_w1 k0_w1 n0_w1 => TailX_nil ?_)
      (try simp only [Nat.zero_add, Nat.reduceAdd] at e0_w1)
      (try simp only [e0_w1])
      clear e0_w1
      clear γ
      clear ho_w1
      have b_w1 := below_of_grown gr_w1
      clear gr_w1
      obtain ⟨c_w1, f_w1, z_w1⟩ := bfacts b_w1 (by first | (simp; rfl) | rfl)
      have hk0_w1 := Lib.hid k0_w1
      obtain ⟨cg0_w1, fg0_w1, zg0_w1⟩ := blk_facts k0_w1
      (try simp at h0_w1)
      (try simp at n0_w1)
      clear k0_w1
      have y0_w1 : w.heap.size < w1.heap.size := (by omega)
      have y1_w1 : g < w1.heap.size := (by omega)
      have y2_w1 : g0_w1 < w1.heap.size := (by omega)
      have k0_0_w1 : w1.cell? ⟨w.heap.size, 0, none⟩ = some (.int .i64 (0)) := (by first | exact (c_w1 _ _ (by omega)).trans (by go_simp) | go_simp)
      have l0_0_w1 : w1.frozen? ⟨w.heap.size, 0, none⟩ = false := (by first | exact (f_w1 _ _ (by omega)).trans (by go_simp) | go_simp)
      have k0_1_w1 : w1.cell? ⟨w.heap.size, 1, none⟩ = some (.int .i64 (0)) := (by first | exact (c_w1 _ _ (by omega)).trans (by go_simp) | go_simp)
      have l0_1_w1 : w1.frozen? ⟨w.heap.size, 1, none⟩ = false := (by first | exact (f_w1 _ _ (by omega)).trans (by go_simp) | go_simp)
      have k0_2_w1 : w1.cell? ⟨w.heap.size, 2, none⟩ = some (.int .i64 (0)) := (by first | exact (c_w1 _ _ (by omega)).trans (by go_simp) | go_simp)
      have l0_2_w1 : w1.frozen? ⟨w.heap.size, 2, none⟩ = false := (by first | exact (f_w1 _ _ (by omega)).trans (by go_simp) | go_simp)
      have k0_3_w1 : w1.cell? ⟨w.heap.size, 3, none⟩ = some (.int .i64 (0)) := (by first | exact (c_w1 _ _ (by omega)).trans (by go_simp) | go_simp)
      have l0_3_w1 : w1.frozen? ⟨w.heap.size, 3, none⟩ = false := (by first | exact (f_w1 _ _ (by omega)).trans (by go_simp) | go_simp)
      have k1_0_w1 : w1.cell? ⟨g, 0, none⟩ = some (.int .i64 (p.x.lo)) := (by first | exact (c_w1 _ _ (by omega)).trans (by go_simp) | go_simp)
      have k1_1_w1 : w1.cell? ⟨g, 1, none⟩ = some (.int .i64 (p.x.hi)) := (by first | exact (c_w1 _ _ (by omega)).trans (by go_simp) | go_simp)
      have k1_2_w1 : w1.cell? ⟨g, 2, none⟩ = some (.int .i64 (p.y.lo)) := (by first | exact (c_w1 _ _ (by omega)).trans (by go_simp) | go_simp)
      have k1_3_w1 : w1.cell? ⟨g, 3, none⟩ = some (.int .i64 (p.y.hi)) := (by first | exact (c_w1 _ _ (by omega)).trans (by go_simp) | go_simp)
      have k1_4_w1 : w1.cell? ⟨g, 4, none⟩ = some (.int .i64 (p.z.lo)) := (by first | exact (c_w1 _ _ (by omega)).trans (by go_simp) | go_simp)
      have k1_5_w1 : w1.cell? ⟨g, 5, none⟩ = some (.int .i64 (p.z.hi)) := (by first | exact (c_w1 _ _ (by omega)).trans (by go_simp) | go_simp)
      have k2_0_w1 : w1.cell? ⟨g0_w1, 0, none⟩ = some (.int .i64 (f.lo)) := (by first | exact (c_w1 _ _ (by omega)).trans (by go_simp) | go_simp)
      have l2_0_w1 : w1.frozen? ⟨g0_w1, 0, none⟩ = false := (by first | exact (f_w1 _ _ (by omega)).trans (by go_simp) | go_simp)
      have k2_1_w1 : w1.cell? ⟨g0_w1, 1, none⟩ = some (.int .i64 (f.hi)) := (by first | exact (c_w1 _ _ (by omega)).trans (by go_simp) | go_simp)
      have l2_1_w1 : w1.frozen? ⟨g0_w1, 1, none⟩ = false := (by first | exact (f_w1 _ _ (by omega)).trans (by go_simp) | go_simp)
      clear c_w1 f_w1 cg0_w1 fg0_w1
      clear HS
      go_simp
      go_wp2_with fail
      refine wp_region_bx2 13 none (.cells #[] 0) (fun w' => w'.cell? ⟨g, 0, none⟩ = some (.int .i64 (p.x.lo)) ∧ w'.cell? ⟨g, 1, none⟩ = some (.int .i64 (p.x.hi)) ∧ w'.cell? ⟨g, 2, none⟩ = some (.int .i64 (p.y.lo)) ∧ w'.cell? ⟨g, 3, none⟩ = some (.int .i64 (p.y.hi)) ∧ w'.cell? ⟨g, 4, none⟩ = some (.int .i64 (p.z.lo)) ∧ w'.cell? ⟨g, 5, none⟩ = some (.int .i64 (p.z.hi))) (by kernel_rfl) (by kernel_rfl) (by rfl) (fun b hb => by cases hb) (fun w' hw' => ?_) (fun hS => ?_)
      focus exact ⟨hw'.cell (a := ⟨g, 0, none⟩) (by go_simp) (by first | (simp; done) | (simp; omega)), hw'.cell (a := ⟨g, 1, none⟩) (by go_simp) (by first | (simp; done) | (simp; omega)), hw'.cell (a := ⟨g, 2, none⟩) (by go_simp) (by first | (simp; done) | (simp; omega)), hw'.cell (a := ⟨g, 3, none⟩) (by go_simp) (by first | (simp; done) | (simp; omega)), hw'.cell (a := ⟨g, 4, none⟩) (by go_simp) (by first | (simp; done) | (simp; omega)), hw'.cell (a := ⟨g, 5, none⟩) (by go_simp) (by first | (simp; done) | (simp; omega))⟩
      have HS := Lib.hid hS; clear hS
      simp only [List.take_succ_cons, List.take_zero, List.drop_succ_cons, List.drop_zero]
      repeat (first | (refine wpBx_op ?_ (fun K hK => ?_); (focus exact fun _ => rfl); apply Exists.intro; refine ⟨fun γ w' hw' => ?_, ?_⟩; (focus (first | (go_simp; first | (go_at_call 184; exact OX.out _)) | (obtain ⟨kr0, kr1, kr2, kr3, kr4, kr5⟩ := HS.out w' hw'; go_simp; rfl))); go_simp; refine hK _ ?_; clear hK K) | (refine wpBx_mk (fun g => .pointer (some ⟨g, 0, none⟩)) ?_ (fun K hK => ?_); (focus exact fun _ => rfl); apply Exists.intro; refine ⟨fun γ w' hw' => ?_, ?_⟩; (focus (go_simp; first | rfl | exact ⟨rfl, rfl⟩ | trivial)); go_simp; refine hK _ _ ?_; clear hK K) | (apply wpBx_put 11; (case hm => (repeat (first | exact List.mem_append_right _ (List.mem_singleton.2 rfl) | refine List.mem_append_left _ ?_))); (case hd => kernel_rfl); (case hp => decide); (case hq => decide); (case hw => (focus exact fun _ => rfl)); intro K hK; apply Exists.intro; refine ⟨fun γ g w' hg hw' hx => ?_, ?_⟩; (focus (have HX := Lib.hid hx; obtain ⟨cx, fx, zx⟩ := blk_facts hx; clear hx; go_simp; (repeat apply PutW.set); exact PutW.refl HX.out)); go_simp; refine hK _ _ ?_; clear hK K; (try simp only [List.map_append, List.map_cons, List.map_nil, List.map, Nat.reduceEqDiff, if_true, if_false, ite_true, ite_false, reduceIte, List.nil_append])) | (refine wpBx_no ?_ (fun K hK => ?_); (focus exact fun _ => rfl); go_simp; refine hK _ ?_; clear hK K))
      refine wpBx_end ?_
      intro γ w2 gr_w2 ho_w2
      refine TailX_cons (fun g0_w2 e0_w2 h0_w2 k0_w2 n0_w2 => TailX_nil ?_)
      (try simp only [Nat.zero_add, Nat.reduceAdd] at e0_w2)
      (try simp only [e0_w2])
      clear e0_w2
      clear γ
      clear ho_w2
      have b_w2 := below_of_grown gr_w2
      clear gr_w2
      obtain ⟨c_w2, f_w2, z_w2⟩ := bfacts b_w2 (by first | (simp; rfl) | rfl)
      have hk0_w2 := Lib.hid k0_w2
      obtain ⟨cg0_w2, fg0_w2, zg0_w2⟩ := blk_facts k0_w2
      (try simp at h0_w2)
      (try simp at n0_w2)
      clear k0_w2
      have y0_w2 : w.heap.size < w2.heap.size := (by omega)
      have y1_w2 : g0_w1 < w2.heap.size := (by omega)
      have y2_w2 : g0_w2 < w2.heap.size := (by omega)
      have k0_0_w2 : w2.cell? ⟨w.heap.size, 0, none⟩ = some (.int .i64 (0)) := (by first | exact (c_w2 _ _ (by omega)).trans (by go_simp) | go_simp)
      have l0_0_w2 : w2.frozen? ⟨w.heap.size, 0, none⟩ = false := (by first | exact (f_w2 _ _ (by omega)).trans (by go_simp) | go_simp)
      have k0_1_w2 : w2.cell? ⟨w.heap.size, 1, none⟩ = some (.int .i64 (0)) := (by first | exact (c_w2 _ _ (by omega)).trans (by go_simp) | go_simp)
      have l0_1_w2 : w2.frozen? ⟨w.heap.size, 1, none⟩ = false := (by first | exact (f_w2 _ _ (by omega)).trans (by go_simp) | go_simp)
      have k0_2_w2 : w2.cell? ⟨w.heap.size, 2, none⟩ = some (.int .i64 (0)) := (by first | exact (c_w2 _ _ (by omega)).trans (by go_simp) | go_simp)
      have l0_2_w2 : w2.frozen? ⟨w.heap.size, 2, none⟩ = false := (by first | exact (f_w2 _ _ (by omega)).trans (by go_simp) | go_simp)
      have k0_3_w2 : w2.cell? ⟨w.heap.size, 3, none⟩ = some (.int .i64 (0)) := (by first | exact (c_w2 _ _ (by omega)).trans (by go_simp) | go_simp)
      have l0_3_w2 : w2.frozen? ⟨w.heap.size, 3, none⟩ = false := (by first | exact (f_w2 _ _ (by omega)).trans (by go_simp) | go_simp)
      have k1_0_w2 : w2.cell? ⟨g0_w1, 0, none⟩ = some (.int .i64 (f.lo)) := (by first | exact (c_w2 _ _ (by omega)).trans (by go_simp) | go_simp)
      have l1_0_w2 : w2.frozen? ⟨g0_w1, 0, none⟩ = false := (by first | exact (f_w2 _ _ (by omega)).trans (by go_simp) | go_simp)
      have k1_1_w2 : w2.cell? ⟨g0_w1, 1, none⟩ = some (.int .i64 (f.hi)) := (by first | exact (c_w2 _ _ (by omega)).trans (by go_simp) | go_simp)
      have l1_1_w2 : w2.frozen? ⟨g0_w1, 1, none⟩ = false := (by first | exact (f_w2 _ _ (by omega)).trans (by go_simp) | go_simp)
      have k2_0_w2 : w2.cell? ⟨g0_w2, 0, none⟩ = some (.int .i64 (f'.lo)) := (by first | exact (c_w2 _ _ (by omega)).trans (by go_simp) | go_simp)
      have l2_0_w2 : w2.frozen? ⟨g0_w2, 0, none⟩ = false := (by first | exact (f_w2 _ _ (by omega)).trans (by go_simp) | go_simp)
      have k2_1_w2 : w2.cell? ⟨g0_w2, 1, none⟩ = some (.int .i64 (f'.hi)) := (by first | exact (c_w2 _ _ (by omega)).trans (by go_simp) | go_simp)
      have l2_1_w2 : w2.frozen? ⟨g0_w2, 1, none⟩ = false := (by first | exact (f_w2 _ _ (by omega)).trans (by go_simp) | go_simp)
      clear c_w2 f_w2 cg0_w2 fg0_w2
      clear HS
      go_simp
      go_wp2_with fail
      refine (IP.out _).mono ?_
      rintro _ w3 ⟨rfl, b_w3⟩
      obtain ⟨c_w3, f_w3, z_w3⟩ := bfacts b_w3 (by first | (simp; rfl) | rfl)
      have y0_w3 : w.heap.size < w3.heap.size := (by omega)
      have k0_0_w3 : w3.cell? ⟨w.heap.size, 0, none⟩ = some (.int .i64 (0)) := (by first | exact (c_w3 _ _ (by omega)).trans (by go_simp) | go_simp)
      have l0_0_w3 : w3.frozen? ⟨w.heap.size, 0, none⟩ = false := (by first | exact (f_w3 _ _ (by omega)).trans (by go_simp) | go_simp)
      have k0_1_w3 : w3.cell? ⟨w.heap.size, 1, none⟩ = some (.int .i64 (0)) := (by first | exact (c_w3 _ _ (by omega)).trans (by go_simp) | go_simp)
      have l0_1_w3 : w3.frozen? ⟨w.heap.size, 1, none⟩ = false := (by first | exact (f_w3 _ _ (by omega)).trans (by go_simp) | go_simp)
      have k0_2_w3 : w3.cell? ⟨w.heap.size, 2, none⟩ = some (.int .i64 (0)) := (by first | exact (c_w3 _ _ (by omega)).trans (by go_simp) | go_simp)
      have l0_2_w3 : w3.frozen? ⟨w.heap.size, 2, none⟩ = false := (by first | exact (f_w3 _ _ (by omega)).trans (by go_simp) | go_simp)
      have k0_3_w3 : w3.cell? ⟨w.heap.size, 3, none⟩ = some (.int .i64 (0)) := (by first | exact (c_w3 _ _ (by omega)).trans (by go_simp) | go_simp)
      have l0_3_w3 : w3.frozen? ⟨w.heap.size, 3, none⟩ = false := (by first | exact (f_w3 _ _ (by omega)).trans (by go_simp) | go_simp)
      clear c_w3 f_w3
      go_wp2
      exact bodyPost_ret (v := .tuple #[(.agg #[.int .i64 (0), .int .i64 (0), .int .i64 (0), .int .i64 (0)]), .int .i64 3]) (by simp [results, Tryz.results155, go_sem, *]) rfl ⟨rfl, by (repeat' (first | with_reducible exact Below.refl _ _ | with_reducible refine Below.setCell ?_ ?_ _ | with_reducible refine Below.drew ?_ | with_reducible refine below_drewN ?_ _ | with_reducible refine Below.alloc ?_ ?_ _ | with_reducible refine below_step b_w3 ?_ ?_ | with_reducible refine below_step b_w2 ?_ ?_ | with_reducible refine below_step b_w1 ?_ ?_ | omega | (simp; done) | (simp; omega)))⟩
set_option maxHeartbeats 4000000 in
theorem placeOf_yes (h : Int) (p : V3) (g cap : Nat) (w : World) (hg : g < w.heap.size) (h0 : 1 ≤ h) (h1 : h ≤ 10000) (x0 : -20000000 ≤ p.x.lo) (x1 : p.x.lo ≤ p.x.hi) (x2 : p.x.hi ≤ 20000000) (y0 : -20000000 ≤ p.y.lo) (y1 : p.y.lo ≤ p.y.hi) (y2 : p.y.hi ≤ 20000000) (z0 : 0 < p.z.lo) (z1 : p.z.lo ≤ p.z.hi) (z2 : p.z.hi ≤ 20000000)
    (k0 : w.cell? ⟨g, 0, none⟩ = some (.int .i64 p.x.lo)) (k1 : w.cell? ⟨g, 1, none⟩ = some (.int .i64 p.x.hi)) (k2 : w.cell? ⟨g, 2, none⟩ = some (.int .i64 p.y.lo)) (k3 : w.cell? ⟨g, 3, none⟩ = some (.int .i64 p.y.hi)) (k4 : w.cell? ⟨g, 4, none⟩ = some (.int .i64 p.z.lo)) (k5 : w.cell? ⟨g, 5, none⟩ = some (.int .i64 p.z.hi))
    (k : plB (spP h p) = true) :
    Calls Tryz.prog 155 #[.int .i64 h, .slice (some ⟨g, 0, none⟩) 3 cap] w fun e w' => e = .returned (.tuple #[(.agg #[.int .i64 ((spP h p).x.lo), .int .i64 ((spP h p).x.hi), .int .i64 ((spP h p).y.lo), .int .i64 ((spP h p).y.hi)]), .int .i64 0]) ∧ Below w.heap.size w w' := by
  have hgw : ¬ g = w.heap.size := by omega
  have bx := diI_bd (a := p.x) (b := p.z) x0 (by omega) (by omega) x2 z0 (by omega)
  have by' := diI_bd (a := p.y) (b := p.z) y0 (by omega) (by omega) y2 z0 (by omega)
  obtain ⟨c1, c2⟩ := pl_quot h0 bx.2.1 by'.2.1 k
  have ow := fun w => onWall_yes h p.x p.z w h0 h1 x0 x1 x2 z0 z1 z2 c1
  have ox := fun w => onWall_yes h p.y p.z w h0 h1 y0 y1 y2 z0 z1 z2 c2
  have ip := fun w => IsPlace_any (spP h p) w
  rw [k] at ip
  unfold spP at ip ⊢
  generalize faI h (diI p.x p.z) = f at ow ip ⊢
  generalize faI h (diI p.y p.z) = f' at ox ip ⊢
  have OW := Lib.hid ow; have OX := Lib.hid ox; have IP := Lib.hid ip; clear ow ox ip c1 c2 k bx by'
  go_enter Tryz.func155, Tryz.ntmps155
  go_wp2_with fail
  refine wp_region_bx2 13 none (.cells #[] 0) (fun w' => w'.cell? ⟨g, 0, none⟩ = some (.int .i64 (p.x.lo)) ∧ w'.cell? ⟨g, 1, none⟩ = some (.int .i64 (p.x.hi)) ∧ w'.cell? ⟨g, 2, none⟩ = some (.int .i64 (p.y.lo)) ∧ w'.cell? ⟨g, 3, none⟩ = some (.int .i64 (p.y.hi)) ∧ w'.cell? ⟨g, 4, none⟩ = some (.int .i64 (p.z.lo)) ∧ w'.cell? ⟨g, 5, none⟩ = some (.int .i64 (p.z.hi))) (by kernel_rfl) (by kernel_rfl) (by rfl) (fun b hb => by cases hb) (fun w' hw' => ?_) (fun hS => ?_)
  focus exact ⟨hw'.cell (a := ⟨g, 0, none⟩) (by go_simp) (by first | (simp; done) | (simp; omega)), hw'.cell (a := ⟨g, 1, none⟩) (by go_simp) (by first | (simp; done) | (simp; omega)), hw'.cell (a := ⟨g, 2, none⟩) (by go_simp) (by first | (simp; done) | (simp; omega)), hw'.cell (a := ⟨g, 3, none⟩) (by go_simp) (by first | (simp; done) | (simp; omega)), hw'.cell (a := ⟨g, 4, none⟩) (by go_simp) (by first | (simp; done) | (simp; omega)), hw'.cell (a := ⟨g, 5, none⟩) (by go_simp) (by first | (simp; done) | (simp; omega))⟩
  have HS := Lib.hid hS; clear hS
  simp only [List.take_succ_cons, List.take_zero, List.drop_succ_cons, List.drop_zero]
  repeat (first | (refine wpBx_op ?_ (fun K hK => ?_); (focus exact fun _ => rfl); apply Exists.intro; refine ⟨fun γ w' hw' => ?_, ?_⟩; (focus (first | (go_simp; first | (go_at_call 184; exact OW.out _)) | (obtain ⟨kr0, kr1, kr2, kr3, kr4, kr5⟩ := HS.out w' hw'; go_simp; rfl))); go_simp; refine hK _ ?_; clear hK K) | (refine wpBx_mk (fun g => .pointer (some ⟨g, 0, none⟩)) ?_ (fun K hK => ?_); (focus exact fun _ => rfl); apply Exists.intro; refine ⟨fun γ w' hw' => ?_, ?_⟩; (focus (go_simp; first | rfl | exact ⟨rfl, rfl⟩ | trivial)); go_simp; refine hK _ _ ?_; clear hK K) | (apply wpBx_put 11; (case hm => (repeat (first | exact List.mem_append_right _ (List.mem_singleton.2 rfl) | refine List.mem_append_left _ ?_))); (case hd => kernel_rfl); (case hp => decide); (case hq => decide); (case hw => (focus exact fun _ => rfl)); intro K hK; apply Exists.intro; refine ⟨fun γ g w' hg hw' hx => ?_, ?_⟩; (focus (have HX := Lib.hid hx; obtain ⟨cx, fx, zx⟩ := blk_facts hx; clear hx; go_simp; (repeat apply PutW.set); exact PutW.refl HX.out)); go_simp; refine hK _ _ ?_; clear hK K; (try simp only [List.map_append, List.map_cons, List.map_nil, List.map, Nat.reduceEqDiff, if_true, if_false, ite_true, ite_false, reduceIte, List.nil_append])) | (refine wpBx_no ?_ (fun K hK => ?_); (focus exact fun _ => rfl); go_simp; refine hK _ ?_; clear hK K))
  refine wpBx_end ?_
  intro γ w1 gr_w1 ho_w1
  refine TailX_cons (fun g0_w1 e0_w1 h0_w1 k0_w1 n0_w1 => TailX_nil ?_)
  (try simp only [Nat.zero_add, Nat.reduceAdd] at e0_w1)
  (try simp only [e0_w1])
  clear e0_w1
  clear γ
  clear ho_w1
  have b_w1 := below_of_grown gr_w1
  clear gr_w1
  obtain ⟨c_w1, f_w1, z_w1⟩ := bfacts b_w1 (by first | (simp; rfl) | rfl)
  have hk0_w1 := Lib.hid k0_w1
  obtain ⟨cg0_w1, fg0_w1, zg0_w1⟩ := blk_facts k0_w1
  (try simp at h0_w1)
  (try simp at n0_w1)
  clear k0_w1
  have y0_w1 : w.heap.size < w1.heap.size := (by omega)
  have y1_w1 : g < w1.heap.size := (by omega)
  have y2_w1 : g0_w1 < w1.heap.size := (by omega)
  have k0_0_w1 : w1.cell? ⟨w.heap.size, 0, none⟩ = some (.int .i64 (0)) := (by first | exact (c_w1 _ _ (by omega)).trans (by go_simp) | go_simp)
  have l0_0_w1 : w1.frozen? ⟨w.heap.size, 0, none⟩ = false := (by first | exact (f_w1 _ _ (by omega)).trans (by go_simp) | go_simp)
  have k0_1_w1 : w1.cell? ⟨w.heap.size, 1, none⟩ = some (.int .i64 (0)) := (by first | exact (c_w1 _ _ (by omega)).trans (by go_simp) | go_simp)
  have l0_1_w1 : w1.frozen? ⟨w.heap.size, 1, none⟩ = false := (by first | exact (f_w1 _ _ (by omega)).trans (by go_simp) | go_simp)
  have k0_2_w1 : w1.cell? ⟨w.heap.size, 2, none⟩ = some (.int .i64 (0)) := (by first | exact (c_w1 _ _ (by omega)).trans (by go_simp) | go_simp)
  have l0_2_w1 : w1.frozen? ⟨w.heap.size, 2, none⟩ = false := (by first | exact (f_w1 _ _ (by omega)).trans (by go_simp) | go_simp)
  have k0_3_w1 : w1.cell? ⟨w.heap.size, 3, none⟩ = some (.int .i64 (0)) := (by first | exact (c_w1 _ _ (by omega)).trans (by go_simp) | go_simp)
  have l0_3_w1 : w1.frozen? ⟨w.heap.size, 3, none⟩ = false := (by first | exact (f_w1 _ _ (by omega)).trans (by go_simp) | go_simp)
  have k1_0_w1 : w1.cell? ⟨g, 0, none⟩ = some (.int .i64 (p.x.lo)) := (by first | exact (c_w1 _ _ (by omega)).trans (by go_simp) | go_simp)
  have k1_1_w1 : w1.cell? ⟨g, 1, none⟩ = some (.int .i64 (p.x.hi)) := (by first | exact (c_w1 _ _ (by omega)).trans (by go_simp) | go_simp)
  have k1_2_w1 : w1.cell? ⟨g, 2, none⟩ = some (.int .i64 (p.y.lo)) := (by first | exact (c_w1 _ _ (by omega)).trans (by go_simp) | go_simp)
  have k1_3_w1 : w1.cell? ⟨g, 3, none⟩ = some (.int .i64 (p.y.hi)) := (by first | exact (c_w1 _ _ (by omega)).trans (by go_simp) | go_simp)
  have k1_4_w1 : w1.cell? ⟨g, 4, none⟩ = some (.int .i64 (p.z.lo)) := (by first | exact (c_w1 _ _ (by omega)).trans (by go_simp) | go_simp)
  have k1_5_w1 : w1.cell? ⟨g, 5, none⟩ = some (.int .i64 (p.z.hi)) := (by first | exact (c_w1 _ _ (by omega)).trans (by go_simp) | go_simp)
  have k2_0_w1 : w1.cell? ⟨g0_w1, 0, none⟩ = some (.int .i64 (f.lo)) := (by first | exact (c_w1 _ _ (by omega)).trans (by go_simp) | go_simp)
  have l2_0_w1 : w1.frozen? ⟨g0_w1, 0, none⟩ = false := (by first | exact (f_w1 _ _ (by omega)).trans (by go_simp) | go_simp)
  have k2_1_w1 : w1.cell? ⟨g0_w1, 1, none⟩ = some (.int .i64 (f.hi)) := (by first | exact (c_w1 _ _ (by omega)).trans (by go_simp) | go_simp)
  have l2_1_w1 : w1.frozen? ⟨g0_w1, 1, none⟩ = false := (by first | exact (f_w1 _ _ (by omega)).trans (by go_simp) | go_simp)
  clear c_w1 f_w1 cg0_w1 fg0_w1
  clear HS
  go_simp
  go_wp2_with fail
  refine wp_region_bx2 13 none (.cells #[] 0) (fun w' => w'.cell? ⟨g, 0, none⟩ = some (.int .i64 (p.x.lo)) ∧ w'.cell? ⟨g, 1, none⟩ = some (.int .i64 (p.x.hi)) ∧ w'.cell? ⟨g, 2, none⟩ = some (.int .i64 (p.y.lo)) ∧ w'.cell? ⟨g, 3, none⟩ = some (.int .i64 (p.y.hi)) ∧ w'.cell? ⟨g, 4, none⟩ = some (.int .i64 (p.z.lo)) ∧ w'.cell? ⟨g, 5, none⟩ = some (.int .i64 (p.z.hi))) (by kernel_rfl) (by kernel_rfl) (by rfl) (fun b hb => by cases hb) (fun w' hw' => ?_) (fun hS => ?_)
  focus exact ⟨hw'.cell (a := ⟨g, 0, none⟩) (by go_simp) (by first | (simp; done) | (simp; omega)), hw'.cell (a := ⟨g, 1, none⟩) (by go_simp) (by first | (simp; done) | (simp; omega)), hw'.cell (a := ⟨g, 2, none⟩) (by go_simp) (by first | (simp; done) | (simp; omega)), hw'.cell (a := ⟨g, 3, none⟩) (by go_simp) (by first | (simp; done) | (simp; omega)), hw'.cell (a := ⟨g, 4, none⟩) (by go_simp) (by first | (simp; done) | (simp; omega)), hw'.cell (a := ⟨g, 5, none⟩) (by go_simp) (by first | (simp; done) | (simp; omega))⟩
  have HS := Lib.hid hS; clear hS
  simp only [List.take_succ_cons, List.take_zero, List.drop_succ_cons, List.drop_zero]
  repeat (first | (refine wpBx_op ?_ (fun K hK => ?_); (focus exact fun _ => rfl); apply Exists.intro; refine ⟨fun γ w' hw' => ?_, ?_⟩; (focus (first | (go_simp; first | (go_at_call 184; exact OX.out _)) | (obtain ⟨kr0, kr1, kr2, kr3, kr4, kr5⟩ := HS.out w' hw'; go_simp; rfl))); go_simp; refine hK _ ?_; clear hK K) | (refine wpBx_mk (fun g => .pointer (some ⟨g, 0, none⟩)) ?_ (fun K hK => ?_); (focus exact fun _ => rfl); apply Exists.intro; refine ⟨fun γ w' hw' => ?_, ?_⟩; (focus (go_simp; first | rfl | exact ⟨rfl, rfl⟩ | trivial)); go_simp; refine hK _ _ ?_; clear hK K) | (apply wpBx_put 11; (case hm => (repeat (first | exact List.mem_append_right _ (List.mem_singleton.2 rfl) | refine List.mem_append_left _ ?_))); (case hd => kernel_rfl); (case hp => decide); (case hq => decide); (case hw => (focus exact fun _ => rfl)); intro K hK; apply Exists.intro; refine ⟨fun γ g w' hg hw' hx => ?_, ?_⟩; (focus (have HX := Lib.hid hx; obtain ⟨cx, fx, zx⟩ := blk_facts hx; clear hx; go_simp; (repeat apply PutW.set); exact PutW.refl HX.out)); go_simp; refine hK _ _ ?_; clear hK K; (try simp only [List.map_append, List.map_cons, List.map_nil, List.map, Nat.reduceEqDiff, if_true, if_false, ite_true, ite_false, reduceIte, List.nil_append])) | (refine wpBx_no ?_ (fun K hK => ?_); (focus exact fun _ => rfl); go_simp; refine hK _ ?_; clear hK K))
  refine wpBx_end ?_
  intro γ w2 gr_w2 ho_w2
  refine TailX_cons (fun g0_w2 e0_w2 h0_w2 k0_w2 n0_w2 => TailX_nil ?_)
  (try simp only [Nat.zero_add, Nat.reduceAdd] at e0_w2)
  (try simp only [e0_w2])
  clear e0_w2
  clear γ
  clear ho_w2
  have b_w2 := below_of_grown gr_w2
  clear gr_w2
  obtain ⟨c_w2, f_w2, z_w2⟩ := bfacts b_w2 (by first | (simp; rfl) | rfl)
  have hk0_w2 := Lib.hid k0_w2
  obtain ⟨cg0_w2, fg0_w2, zg0_w2⟩ := blk_facts k0_w2
  (try simp at h0_w2)
  (try simp at n0_w2)
  clear k0_w2
  have y0_w2 : w.heap.size < w2.heap.size := (by omega)
  have y1_w2 : g0_w1 < w2.heap.size := (by omega)
  have y2_w2 : g0_w2 < w2.heap.size := (by omega)
  have k0_0_w2 : w2.cell? ⟨w.heap.size, 0, none⟩ = some (.int .i64 (0)) := (by first | exact (c_w2 _ _ (by omega)).trans (by go_simp) | go_simp)
  have l0_0_w2 : w2.frozen? ⟨w.heap.size, 0, none⟩ = false := (by first | exact (f_w2 _ _ (by omega)).trans (by go_simp) | go_simp)
  have k0_1_w2 : w2.cell? ⟨w.heap.size, 1, none⟩ = some (.int .i64 (0)) := (by first | exact (c_w2 _ _ (by omega)).trans (by go_simp) | go_simp)
  have l0_1_w2 : w2.frozen? ⟨w.heap.size, 1, none⟩ = false := (by first | exact (f_w2 _ _ (by omega)).trans (by go_simp) | go_simp)
  have k0_2_w2 : w2.cell? ⟨w.heap.size, 2, none⟩ = some (.int .i64 (0)) := (by first | exact (c_w2 _ _ (by omega)).trans (by go_simp) | go_simp)
  have l0_2_w2 : w2.frozen? ⟨w.heap.size, 2, none⟩ = false := (by first | exact (f_w2 _ _ (by omega)).trans (by go_simp) | go_simp)
  have k0_3_w2 : w2.cell? ⟨w.heap.size, 3, none⟩ = some (.int .i64 (0)) := (by first | exact (c_w2 _ _ (by omega)).trans (by go_simp) | go_simp)
  have l0_3_w2 : w2.frozen? ⟨w.heap.size, 3, none⟩ = false := (by first | exact (f_w2 _ _ (by omega)).trans (by go_simp) | go_simp)
  have k1_0_w2 : w2.cell? ⟨g0_w1, 0, none⟩ = some (.int .i64 (f.lo)) := (by first | exact (c_w2 _ _ (by omega)).trans (by go_simp) | go_simp)
  have l1_0_w2 : w2.frozen? ⟨g0_w1, 0, none⟩ = false := (by first | exact (f_w2 _ _ (by omega)).trans (by go_simp) | go_simp)
  have k1_1_w2 : w2.cell? ⟨g0_w1, 1, none⟩ = some (.int .i64 (f.hi)) := (by first | exact (c_w2 _ _ (by omega)).trans (by go_simp) | go_simp)
  have l1_1_w2 : w2.frozen? ⟨g0_w1, 1, none⟩ = false := (by first | exact (f_w2 _ _ (by omega)).trans (by go_simp) | go_simp)
  have k2_0_w2 : w2.cell? ⟨g0_w2, 0, none⟩ = some (.int .i64 (f'.lo)) := (by first | exact (c_w2 _ _ (by omega)).trans (by go_simp) | go_simp)
  have l2_0_w2 : w2.frozen? ⟨g0_w2, 0, none⟩ = false := (by first | exact (f_w2 _ _ (by omega)).trans (by go_simp) | go_simp)
  have k2_1_w2 : w2.cell? ⟨g0_w2, 1, none⟩ = some (.int .i64 (f'.hi)) := (by first | exact (c_w2 _ _ (by omega)).trans (by go_simp) | go_simp)
  have l2_1_w2 : w2.frozen? ⟨g0_w2, 1, none⟩ = false := (by first | exact (f_w2 _ _ (by omega)).trans (by go_simp) | go_simp)
  clear c_w2 f_w2 cg0_w2 fg0_w2
  clear HS
  go_simp
  go_wp2_with fail
  refine (IP.out _).mono ?_
  rintro _ w3 ⟨rfl, b_w3⟩
  obtain ⟨c_w3, f_w3, z_w3⟩ := bfacts b_w3 (by first | (simp; rfl) | rfl)
  have y0_w3 : w.heap.size < w3.heap.size := (by omega)
  have y1_w3 : g0_w1 < w3.heap.size := (by omega)
  have y2_w3 : g0_w2 < w3.heap.size := (by omega)
  have k0_0_w3 : w3.cell? ⟨w.heap.size, 0, none⟩ = some (.int .i64 (0)) := (by first | exact (c_w3 _ _ (by omega)).trans (by go_simp) | go_simp)
  have l0_0_w3 : w3.frozen? ⟨w.heap.size, 0, none⟩ = false := (by first | exact (f_w3 _ _ (by omega)).trans (by go_simp) | go_simp)
  have k0_1_w3 : w3.cell? ⟨w.heap.size, 1, none⟩ = some (.int .i64 (0)) := (by first | exact (c_w3 _ _ (by omega)).trans (by go_simp) | go_simp)
  have l0_1_w3 : w3.frozen? ⟨w.heap.size, 1, none⟩ = false := (by first | exact (f_w3 _ _ (by omega)).trans (by go_simp) | go_simp)
  have k0_2_w3 : w3.cell? ⟨w.heap.size, 2, none⟩ = some (.int .i64 (0)) := (by first | exact (c_w3 _ _ (by omega)).trans (by go_simp) | go_simp)
  have l0_2_w3 : w3.frozen? ⟨w.heap.size, 2, none⟩ = false := (by first | exact (f_w3 _ _ (by omega)).trans (by go_simp) | go_simp)
  have k0_3_w3 : w3.cell? ⟨w.heap.size, 3, none⟩ = some (.int .i64 (0)) := (by first | exact (c_w3 _ _ (by omega)).trans (by go_simp) | go_simp)
  have l0_3_w3 : w3.frozen? ⟨w.heap.size, 3, none⟩ = false := (by first | exact (f_w3 _ _ (by omega)).trans (by go_simp) | go_simp)
  have k1_0_w3 : w3.cell? ⟨g0_w1, 0, none⟩ = some (.int .i64 (f.lo)) := (by first | exact (c_w3 _ _ (by omega)).trans (by go_simp) | go_simp)
  have l1_0_w3 : w3.frozen? ⟨g0_w1, 0, none⟩ = false := (by first | exact (f_w3 _ _ (by omega)).trans (by go_simp) | go_simp)
  have k1_1_w3 : w3.cell? ⟨g0_w1, 1, none⟩ = some (.int .i64 (f.hi)) := (by first | exact (c_w3 _ _ (by omega)).trans (by go_simp) | go_simp)
  have l1_1_w3 : w3.frozen? ⟨g0_w1, 1, none⟩ = false := (by first | exact (f_w3 _ _ (by omega)).trans (by go_simp) | go_simp)
  have k2_0_w3 : w3.cell? ⟨g0_w2, 0, none⟩ = some (.int .i64 (f'.lo)) := (by first | exact (c_w3 _ _ (by omega)).trans (by go_simp) | go_simp)
  have l2_0_w3 : w3.frozen? ⟨g0_w2, 0, none⟩ = false := (by first | exact (f_w3 _ _ (by omega)).trans (by go_simp) | go_simp)
  have k2_1_w3 : w3.cell? ⟨g0_w2, 1, none⟩ = some (.int .i64 (f'.hi)) := (by first | exact (c_w3 _ _ (by omega)).trans (by go_simp) | go_simp)
  have l2_1_w3 : w3.frozen? ⟨g0_w2, 1, none⟩ = false := (by first | exact (f_w3 _ _ (by omega)).trans (by go_simp) | go_simp)
  clear c_w3 f_w3
  go_wp2
  exact bodyPost_ret (v := .tuple #[(.agg #[.int .i64 (f.lo), .int .i64 (f.hi), .int .i64 (f'.lo), .int .i64 (f'.hi)]), .int .i64 0]) (by simp [results, Tryz.results155, go_sem, *]) rfl ⟨rfl, by (repeat' (first | with_reducible exact Below.refl _ _ | with_reducible refine Below.setCell ?_ ?_ _ | with_reducible refine Below.drew ?_ | with_reducible refine below_drewN ?_ _ | with_reducible refine Below.alloc ?_ ?_ _ | with_reducible refine below_step b_w3 ?_ ?_ | with_reducible refine below_step b_w2 ?_ ?_ | with_reducible refine below_step b_w1 ?_ ?_ | omega | (simp; done) | (simp; omega)))⟩


end Go.Proofs.YteooegliepbcnaaGreat
