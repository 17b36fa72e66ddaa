/- What the laws' own helpers return: equality of structs. -/
import Derived.Test.YteooegliepbcnaaGreatReg
namespace Go.Proofs.YteooegliepbcnaaGreat
set_option linter.unusedVariables false
set_option linter.unusedSimpArgs false
set_option maxRecDepth 10000
open Go.RowKit


set_option maxHeartbeats 400000 in
theorem eqInterval_same (a b : Int) (w : World) :
    Calls Tryz.prog 67 #[(.agg #[.int .i64 (a), .int .i64 (b)]), (.agg #[.int .i64 (a), .int .i64 (b)])] w fun e w' => e = .returned (.bool true) ∧ Below w.heap.size w w' := by
  go_enter Tryz.func67, Tryz.ntmps67
  go_wp2
  go_ret
  exact ⟨rfl, by (repeat' (first | with_reducible exact Below.refl _ _ | with_reducible assumption | with_reducible refine Below.setCell ?_ ?_ _ | with_reducible refine Below.drew ?_ | with_reducible refine below_drewN ?_ _ | with_reducible refine Below.alloc ?_ ?_ _ | with_reducible refine below_step (by assumption) ?_ ?_ | omega | exact Below.size (by assumption) | (simp; done) | (simp; omega)))⟩

set_option maxHeartbeats 400000 in
theorem eqPlace_same (a b c d : Int) (w : World) :
    Calls Tryz.prog 20 #[(.agg #[.int .i64 (a), .int .i64 (b), .int .i64 (c), .int .i64 (d)]), (.agg #[.int .i64 (a), .int .i64 (b), .int .i64 (c), .int .i64 (d)])] w fun e w' => e = .returned (.bool true) ∧ Below w.heap.size w w' := by
  go_enter Tryz.func20, Tryz.ntmps20
  go_wp2_with fail
  refine (eqInterval_same a b _).mono ?_
  rintro _ w1 ⟨rfl, b_w1⟩
  obtain ⟨c_w1, f_w1, z_w1⟩ := bfacts b_w1 (by first | (simp; rfl) | rfl)
  have y0_w1 : w.heap.size < w1.heap.size := (by omega)
  have y1_w1 : w.heap.size + 1 < w1.heap.size := (by omega)
  have k0_0_w1 : w1.cell? ⟨w.heap.size, 0, none⟩ = some (.int .i64 (a)) := (by first | exact (c_w1 _ _ (by omega)).trans (by go_simp) | go_simp)
  have l0_0_w1 : w1.frozen? ⟨w.heap.size, 0, none⟩ = false := (by first | exact (f_w1 _ _ (by omega)).trans (by go_simp) | go_simp)
  have k0_1_w1 : w1.cell? ⟨w.heap.size, 1, none⟩ = some (.int .i64 (b)) := (by first | exact (c_w1 _ _ (by omega)).trans (by go_simp) | go_simp)
  have l0_1_w1 : w1.frozen? ⟨w.heap.size, 1, none⟩ = false := (by first | exact (f_w1 _ _ (by omega)).trans (by go_simp) | go_simp)
  have k0_2_w1 : w1.cell? ⟨w.heap.size, 2, none⟩ = some (.int .i64 (c)) := (by first | exact (c_w1 _ _ (by omega)).trans (by go_simp) | go_simp)
  have l0_2_w1 : w1.frozen? ⟨w.heap.size, 2, none⟩ = false := (by first | exact (f_w1 _ _ (by omega)).trans (by go_simp) | go_simp)
  have k0_3_w1 : w1.cell? ⟨w.heap.size, 3, none⟩ = some (.int .i64 (d)) := (by first | exact (c_w1 _ _ (by omega)).trans (by go_simp) | go_simp)
  have l0_3_w1 : w1.frozen? ⟨w.heap.size, 3, none⟩ = false := (by first | exact (f_w1 _ _ (by omega)).trans (by go_simp) | go_simp)
  have k1_0_w1 : w1.cell? ⟨w.heap.size + 1, 0, none⟩ = some (.int .i64 (a)) := (by first | exact (c_w1 _ _ (by omega)).trans (by go_simp) | go_simp)
  have l1_0_w1 : w1.frozen? ⟨w.heap.size + 1, 0, none⟩ = false := (by first | exact (f_w1 _ _ (by omega)).trans (by go_simp) | go_simp)
  have k1_1_w1 : w1.cell? ⟨w.heap.size + 1, 1, none⟩ = some (.int .i64 (b)) := (by first | exact (c_w1 _ _ (by omega)).trans (by go_simp) | go_simp)
  have l1_1_w1 : w1.frozen? ⟨w.heap.size + 1, 1, none⟩ = false := (by first | exact (f_w1 _ _ (by omega)).trans (by go_simp) | go_simp)
  have k1_2_w1 : w1.cell? ⟨w.heap.size + 1, 2, none⟩ = some (.int .i64 (c)) := (by first | exact (c_w1 _ _ (by omega)).trans (by go_simp) | go_simp)
  have l1_2_w1 : w1.frozen? ⟨w.heap.size + 1, 2, none⟩ = false := (by first | exact (f_w1 _ _ (by omega)).trans (by go_simp) | go_simp)
  have k1_3_w1 : w1.cell? ⟨w.heap.size + 1, 3, none⟩ = some (.int .i64 (d)) := (by first | exact (c_w1 _ _ (by omega)).trans (by go_simp) | go_simp)
  have l1_3_w1 : w1.frozen? ⟨w.heap.size + 1, 3, none⟩ = false := (by first | exact (f_w1 _ _ (by omega)).trans (by go_simp) | go_simp)
  clear c_w1 f_w1
  go_wp2_with fail
  refine (eqInterval_same c d _).mono ?_
  rintro _ w2 ⟨rfl, b_w2⟩
  obtain ⟨c_w2, f_w2, z_w2⟩ := bfacts b_w2 (by first | (simp; rfl) | rfl)
  have y0_w2 : w.heap.size < w2.heap.size := (by omega)
  have y1_w2 : w.heap.size + 1 < w2.heap.size := (by omega)
  have k0_0_w2 : w2.cell? ⟨w.heap.size, 0, none⟩ = some (.int .i64 (a)) := (by first | exact (c_w2 _ _ (by omega)).trans (by go_simp) | go_simp)
  have l0_0_w2 : w2.frozen? ⟨w.heap.size, 0, none⟩ = false := (by first | exact (f_w2 _ _ (by omega)).trans (by go_simp) | go_simp)
  have k0_1_w2 : w2.cell? ⟨w.heap.size, 1, none⟩ = some (.int .i64 (b)) := (by first | exact (c_w2 _ _ (by omega)).trans (by go_simp) | go_simp)
  have l0_1_w2 : w2.frozen? ⟨w.heap.size, 1, none⟩ = false := (by first | exact (f_w2 _ _ (by omega)).trans (by go_simp) | go_simp)
  have k0_2_w2 : w2.cell? ⟨w.heap.size, 2, none⟩ = some (.int .i64 (c)) := (by first | exact (c_w2 _ _ (by omega)).trans (by go_simp) | go_simp)
  have l0_2_w2 : w2.frozen? ⟨w.heap.size, 2, none⟩ = false := (by first | exact (f_w2 _ _ (by omega)).trans (by go_simp) | go_simp)
  have k0_3_w2 : w2.cell? ⟨w.heap.size, 3, none⟩ = some (.int .i64 (d)) := (by first | exact (c_w2 _ _ (by omega)).trans (by go_simp) | go_simp)
  have l0_3_w2 : w2.frozen? ⟨w.heap.size, 3, none⟩ = false := (by first | exact (f_w2 _ _ (by omega)).trans (by go_simp) | go_simp)
  have k1_0_w2 : w2.cell? ⟨w.heap.size + 1, 0, none⟩ = some (.int .i64 (a)) := (by first | exact (c_w2 _ _ (by omega)).trans (by go_simp) | go_simp)
  have l1_0_w2 : w2.frozen? ⟨w.heap.size + 1, 0, none⟩ = false := (by first | exact (f_w2 _ _ (by omega)).trans (by go_simp) | go_simp)
  have k1_1_w2 : w2.cell? ⟨w.heap.size + 1, 1, none⟩ = some (.int .i64 (b)) := (by first | exact (c_w2 _ _ (by omega)).trans (by go_simp) | go_simp)
  have l1_1_w2 : w2.frozen? ⟨w.heap.size + 1, 1, none⟩ = false := (by first | exact (f_w2 _ _ (by omega)).trans (by go_simp) | go_simp)
  have k1_2_w2 : w2.cell? ⟨w.heap.size + 1, 2, none⟩ = some (.int .i64 (c)) := (by first | exact (c_w2 _ _ (by omega)).trans (by go_simp) | go_simp)
  have l1_2_w2 : w2.frozen? ⟨w.heap.size + 1, 2, none⟩ = false := (by first | exact (f_w2 _ _ (by omega)).trans (by go_simp) | go_simp)
  have k1_3_w2 : w2.cell? ⟨w.heap.size + 1, 3, none⟩ = some (.int .i64 (d)) := (by first | exact (c_w2 _ _ (by omega)).trans (by go_simp) | go_simp)
  have l1_3_w2 : w2.frozen? ⟨w.heap.size + 1, 3, none⟩ = false := (by first | exact (f_w2 _ _ (by omega)).trans (by go_simp) | go_simp)
  clear c_w2 f_w2
  go_wp2
  go_ret
  exact ⟨rfl, by (repeat' (first | with_reducible exact Below.refl _ _ | with_reducible refine Below.setCell ?_ ?_ _ | with_reducible refine Below.drew ?_ | with_reducible refine below_drewN ?_ _ | with_reducible refine Below.alloc ?_ ?_ _ | with_reducible refine below_step b_w2 ?_ ?_ | with_reducible refine below_step b_w1 ?_ ?_ | omega | (simp; done) | (simp; omega)))⟩


end Go.Proofs.YteooegliepbcnaaGreat
