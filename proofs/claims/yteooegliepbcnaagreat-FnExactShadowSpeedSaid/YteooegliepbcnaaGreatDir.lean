/- What the functions on directions, dot products and the axes of a wall return, on both sides. -/
import Derived.Test.YteooegliepbcnaaGreatRegX
import Derived.Test.YteooegliepbcnaaGreatC4
import Derived.Test.YteooegliepbcnaaGreatS4
namespace Go.Proofs.YteooegliepbcnaaGreat
set_option linter.unusedVariables false
set_option linter.unusedSimpArgs false
set_option maxRecDepth 10000
open Go.RowKit

theorem muI_ab (a b c d : Int) (a0 : -10000000 ≤ a) (a1 : a ≤ 10000000) (b0 : -10000000 ≤ b) (b1 : b ≤ 10000000) (c0 : -10000000 ≤ c) (c1 : c ≤ 10000000) (d0 : -10000000 ≤ d) (d1 : d ≤ 10000000) :
    -100000001 ≤ (muI ⟨a, b⟩ ⟨c, d⟩).lo ∧ (muI ⟨a, b⟩ ⟨c, d⟩).lo ≤ 100000001 ∧ -100000001 ≤ (muI ⟨a, b⟩ ⟨c, d⟩).hi ∧ (muI ⟨a, b⟩ ⟨c, d⟩).hi ≤ 100000001 := by
  have := muI_bd 10000000 10000000 a0 a1 b0 b1 c0 c1 d0 d1
  omega


set_option maxHeartbeats 4000000 in
theorem direction_walk (az al : Int) (w : World) (z0 : -4000000000000000 ≤ az) (z1 : az ≤ 4000000000000000) (a0 : -4000000000000000 ≤ al) (a1 : al ≤ 4000000000000000)
    (s c f h p q : Iv)
    (e1 : sL az = s.lo) (e1' : sH az = s.hi) (e2 : sL (az + 324000) = c.lo) (e2' : sH (az + 324000) = c.hi) (e3 : sL (al + 324000) = f.lo) (e3' : sH (al + 324000) = f.hi) (e4 : sL al = h.lo) (e4' : sH al = h.hi)
    (e5 : muI ⟨s.lo, s.hi⟩ ⟨f.lo, f.hi⟩ = p) (e6 : muI ⟨c.lo, c.hi⟩ ⟨f.lo, f.hi⟩ = q)
    (qs : -1100001 ≤ s.lo ∧ s.lo ≤ s.hi ∧ s.hi ≤ 1100001) (qc : -1100001 ≤ c.lo ∧ c.lo ≤ c.hi ∧ c.hi ≤ 1100001) (qf : -1100001 ≤ f.lo ∧ f.lo ≤ f.hi ∧ f.hi ≤ 1100001) :
    Calls Tryz.prog 196 #[.int .i64 az, .int .i64 al] w fun e w' => e = .returned (.agg #[.int .i64 (p.lo), .int .i64 (p.hi), .int .i64 (q.lo), .int .i64 (q.hi), .int .i64 (h.lo), .int .i64 (h.hi)]) ∧ Below w.heap.size w w' := by
  obtain ⟨qs0, qs1, qs2⟩ := qs
  obtain ⟨qc0, qc1, qc2⟩ := qc
  obtain ⟨qf0, qf1, qf2⟩ := qf
  go_enter Tryz.func196, Tryz.ntmps196
  go_wp2_with fail
  refine (cosine_any al _ (by omega) (by omega)).mono ?_
  rintro _ w1 ⟨rfl, b_w1⟩
  obtain ⟨c_w1, f_w1, z_w1⟩ := bfacts b_w1 (by first | (simp; rfl) | rfl)
  have y0_w1 : w.heap.size < w1.heap.size := (by omega)
  have k0_0_w1 : w1.cell? ⟨w.heap.size, 0, none⟩ = some (.int .i64 (0)) := (by first | exact (c_w1 _ _ (by omega)).trans (by go_simp) | go_simp)
  have l0_0_w1 : w1.frozen? ⟨w.heap.size, 0, none⟩ = false := (by first | exact (f_w1 _ _ (by omega)).trans (by go_simp) | go_simp)
  have k0_1_w1 : w1.cell? ⟨w.heap.size, 1, none⟩ = some (.int .i64 (0)) := (by first | exact (c_w1 _ _ (by omega)).trans (by go_simp) | go_simp)
  have l0_1_w1 : w1.frozen? ⟨w.heap.size, 1, none⟩ = false := (by first | exact (f_w1 _ _ (by omega)).trans (by go_simp) | go_simp)
  have k0_2_w1 : w1.cell? ⟨w.heap.size, 2, none⟩ = some (.int .i64 (0)) := (by first | exact (c_w1 _ _ (by omega)).trans (by go_simp) | go_simp)
  have l0_2_w1 : w1.frozen? ⟨w.heap.size, 2, none⟩ = false := (by first | exact (f_w1 _ _ (by omega)).trans (by go_simp) | go_simp)
  have k0_3_w1 : w1.cell? ⟨w.heap.size, 3, none⟩ = some (.int .i64 (0)) := (by first | exact (c_w1 _ _ (by omega)).trans (by go_simp) | go_simp)
  have l0_3_w1 : w1.frozen? ⟨w.heap.size, 3, none⟩ = false := (by first | exact (f_w1 _ _ (by omega)).trans (by go_simp) | go_simp)
  have k0_4_w1 : w1.cell? ⟨w.heap.size, 4, none⟩ = some (.int .i64 (0)) := (by first | exact (c_w1 _ _ (by omega)).trans (by go_simp) | go_simp)
  have l0_4_w1 : w1.frozen? ⟨w.heap.size, 4, none⟩ = false := (by first | exact (f_w1 _ _ (by omega)).trans (by go_simp) | go_simp)
  have k0_5_w1 : w1.cell? ⟨w.heap.size, 5, none⟩ = some (.int .i64 (0)) := (by first | exact (c_w1 _ _ (by omega)).trans (by go_simp) | go_simp)
  have l0_5_w1 : w1.frozen? ⟨w.heap.size, 5, none⟩ = false := (by first | exact (f_w1 _ _ (by omega)).trans (by go_simp) | go_simp)
  clear c_w1 f_w1
  go_wp2_with fail
  refine wp_region_bl2 11 (fun w' => w'.cell? ⟨w1.heap.size, 0, none⟩ = some (.int .i64 (f.lo)) ∧ w'.cell? ⟨w1.heap.size, 1, none⟩ = some (.int .i64 (f.hi))) (by kernel_rfl) (by kernel_rfl) (by rfl) (fun w' hw' => ?_) (fun hS => ?_)
  focus exact ⟨(hw'.cell (p := ⟨w1.heap.size, 0, none⟩) (by first | omega | (simp; done) | (simp; omega))).trans (by go_simp), (hw'.cell (p := ⟨w1.heap.size, 1, none⟩) (by first | omega | (simp; done) | (simp; omega))).trans (by go_simp)⟩
  have HS := Lib.hid hS; clear hS
  simp only [List.take_succ_cons, List.take_zero, List.drop_succ_cons, List.drop_zero]
  repeat (first | (refine wpBl_op ?_ ?_ (fun K hK => ?_); (focus rfl); (focus rfl); apply Exists.intro; refine ⟨fun w' hw' => ?_, ?_⟩; (focus (first | (go_simp; first | (go_at_call 109; exact sine_any _ _ (by omega) (by omega)) | (go_at_call 115; exact cosine_any _ _ (by omega) (by omega)) | (go_at_call 110; exact times_any _ _ _ _ _ (by omega) (by omega) (by omega) (by omega) (by omega) (by omega) (by omega) (by omega))) | (obtain ⟨kr0, kr1⟩ := HS.out w' hw'; go_simp; rfl))); go_simp; refine hK _ ?_; clear hK K) | (refine wpBl_mk ?_ ?_ (fun K hK => ⟨fun g => .pointer (some ⟨g, 0, none⟩), ?_⟩); (focus rfl); (focus rfl); apply Exists.intro; refine ⟨fun w' => ?_, ?_⟩; (focus (go_simp; rfl)); go_simp; refine hK _ _ _ ?_; clear hK K) | (refine wpBl_no ?_ ?_ (fun K hK => ?_); (focus rfl); (focus rfl); go_simp; refine hK _ ?_; clear hK K))
  refine wpBl_end (fun w2 b_w2 => TailW_nil ?_)
  obtain ⟨c_w2, f_w2, z_w2⟩ := bfacts b_w2 (by first | (simp; rfl) | rfl)
  have y0_w2 : w.heap.size < w2.heap.size := (by omega)
  have k0_0_w2 : w2.cell? ⟨w.heap.size, 0, none⟩ = some (.int .i64 (0)) := (by first | exact (c_w2 _ _ (by omega)).trans (by go_simp) | go_simp)
  have l0_0_w2 : w2.frozen? ⟨w.heap.size, 0, none⟩ = false := (by first | exact (f_w2 _ _ (by omega)).trans (by go_simp) | go_simp)
  have k0_1_w2 : w2.cell? ⟨w.heap.size, 1, none⟩ = some (.int .i64 (0)) := (by first | exact (c_w2 _ _ (by omega)).trans (by go_simp) | go_simp)
  have l0_1_w2 : w2.frozen? ⟨w.heap.size, 1, none⟩ = false := (by first | exact (f_w2 _ _ (by omega)).trans (by go_simp) | go_simp)
  have k0_2_w2 : w2.cell? ⟨w.heap.size, 2, none⟩ = some (.int .i64 (0)) := (by first | exact (c_w2 _ _ (by omega)).trans (by go_simp) | go_simp)
  have l0_2_w2 : w2.frozen? ⟨w.heap.size, 2, none⟩ = false := (by first | exact (f_w2 _ _ (by omega)).trans (by go_simp) | go_simp)
  have k0_3_w2 : w2.cell? ⟨w.heap.size, 3, none⟩ = some (.int .i64 (0)) := (by first | exact (c_w2 _ _ (by omega)).trans (by go_simp) | go_simp)
  have l0_3_w2 : w2.frozen? ⟨w.heap.size, 3, none⟩ = false := (by first | exact (f_w2 _ _ (by omega)).trans (by go_simp) | go_simp)
  have k0_4_w2 : w2.cell? ⟨w.heap.size, 4, none⟩ = some (.int .i64 (0)) := (by first | exact (c_w2 _ _ (by omega)).trans (by go_simp) | go_simp)
  have l0_4_w2 : w2.frozen? ⟨w.heap.size, 4, none⟩ = false := (by first | exact (f_w2 _ _ (by omega)).trans (by go_simp) | go_simp)
  have k0_5_w2 : w2.cell? ⟨w.heap.size, 5, none⟩ = some (.int .i64 (0)) := (by first | exact (c_w2 _ _ (by omega)).trans (by go_simp) | go_simp)
  have l0_5_w2 : w2.frozen? ⟨w.heap.size, 5, none⟩ = false := (by first | exact (f_w2 _ _ (by omega)).trans (by go_simp) | go_simp)
  clear c_w2 f_w2
  clear HS
  go_simp
  go_wp2
  exact bodyPost_ret (v := (.agg #[.int .i64 (p.lo), .int .i64 (p.hi), .int .i64 (q.lo), .int .i64 (q.hi), .int .i64 (h.lo), .int .i64 (h.hi)])) (by simp [results, Tryz.results196, go_sem, *]) rfl ⟨rfl, by (repeat' (first | with_reducible exact Below.refl _ _ | with_reducible refine Below.setCell ?_ ?_ _ | with_reducible refine Below.drew ?_ | with_reducible refine below_drewN ?_ _ | with_reducible refine Below.alloc ?_ ?_ _ | with_reducible refine below_step b_w2 ?_ ?_ | with_reducible refine below_step b_w1 ?_ ?_ | omega | (simp; done) | (simp; omega)))⟩
theorem direction_any (az al : Int) (w : World) (z0 : -4000000000000000 ≤ az) (z1 : az ≤ 4000000000000000) (a0 : -4000000000000000 ≤ al) (a1 : al ≤ 4000000000000000) :
    Calls Tryz.prog 196 #[.int .i64 az, .int .i64 al] w fun e w' => e = .returned (.agg #[.int .i64 ((toV az al).x.lo), .int .i64 ((toV az al).x.hi), .int .i64 ((toV az al).y.lo), .int .i64 ((toV az al).y.hi), .int .i64 ((toV az al).z.lo), .int .i64 ((toV az al).z.hi)]) ∧ Below w.heap.size w w' :=
  direction_walk az al w z0 z1 a0 a1 (siI az) (siI (az + 324000)) (siI (al + 324000)) (siI al) (muI (siI az) (siI (al + 324000))) (muI (siI (az + 324000)) (siI (al + 324000))) rfl rfl rfl rfl rfl rfl rfl rfl rfl rfl (siI_bd _) (siI_bd _) (siI_bd _)

set_option maxHeartbeats 4000000 in
theorem sTo_walk (az al : Int) (w : World) (z0 : -4000000000000000 ≤ az) (z1 : az ≤ 4000000000000000) (a0 : -4000000000000000 ≤ al) (a1 : al ≤ 4000000000000000)
    (s c f h p q : Iv)
    (e1 : sL az = s.lo) (e1' : sH az = s.hi) (e2 : sL (az + 324000) = c.lo) (e2' : sH (az + 324000) = c.hi) (e3 : sL (al + 324000) = f.lo) (e3' : sH (al + 324000) = f.hi) (e4 : sL al = h.lo) (e4' : sH al = h.hi)
    (e5 : muI ⟨s.lo, s.hi⟩ ⟨f.lo, f.hi⟩ = p) (e6 : muI ⟨c.lo, c.hi⟩ ⟨f.lo, f.hi⟩ = q)
    (qs : -1100001 ≤ s.lo ∧ s.lo ≤ s.hi ∧ s.hi ≤ 1100001) (qc : -1100001 ≤ c.lo ∧ c.lo ≤ c.hi ∧ c.hi ≤ 1100001) (qf : -1100001 ≤ f.lo ∧ f.lo ≤ f.hi ∧ f.hi ≤ 1100001) :
    Calls Tryz.prog 137 #[.int .i64 az, .int .i64 al] w fun e w' => e = .returned (.agg #[.int .i64 (p.lo), .int .i64 (p.hi), .int .i64 (q.lo), .int .i64 (q.hi), .int .i64 (h.lo), .int .i64 (h.hi)]) ∧ Below w.heap.size w w' := by
  obtain ⟨qs0, qs1, qs2⟩ := qs
  obtain ⟨qc0, qc1, qc2⟩ := qc
  obtain ⟨qf0, qf1, qf2⟩ := qf
  go_enter Tryz.func137, Tryz.ntmps137
  go_wp2_with fail
  refine (sCos_any al _ (by omega) (by omega)).mono ?_
  rintro _ w1 ⟨rfl, b_w1⟩
  obtain ⟨c_w1, f_w1, z_w1⟩ := bfacts b_w1 (by first | (simp; rfl) | rfl)
  have y0_w1 : w.heap.size < w1.heap.size := (by omega)
  have k0_0_w1 : w1.cell? ⟨w.heap.size, 0, none⟩ = some (.int .i64 (0)) := (by first | exact (c_w1 _ _ (by omega)).trans (by go_simp) | go_simp)
  have l0_0_w1 : w1.frozen? ⟨w.heap.size, 0, none⟩ = false := (by first | exact (f_w1 _ _ (by omega)).trans (by go_simp) | go_simp)
  have k0_1_w1 : w1.cell? ⟨w.heap.size, 1, none⟩ = some (.int .i64 (0)) := (by first | exact (c_w1 _ _ (by omega)).trans (by go_simp) | go_simp)
  have l0_1_w1 : w1.frozen? ⟨w.heap.size, 1, none⟩ = false := (by first | exact (f_w1 _ _ (by omega)).trans (by go_simp) | go_simp)
  have k0_2_w1 : w1.cell? ⟨w.heap.size, 2, none⟩ = some (.int .i64 (0)) := (by first | exact (c_w1 _ _ (by omega)).trans (by go_simp) | go_simp)
  have l0_2_w1 : w1.frozen? ⟨w.heap.size, 2, none⟩ = false := (by first | exact (f_w1 _ _ (by omega)).trans (by go_simp) | go_simp)
  have k0_3_w1 : w1.cell? ⟨w.heap.size, 3, none⟩ = some (.int .i64 (0)) := (by first | exact (c_w1 _ _ (by omega)).trans (by go_simp) | go_simp)
  have l0_3_w1 : w1.frozen? ⟨w.heap.size, 3, none⟩ = false := (by first | exact (f_w1 _ _ (by omega)).trans (by go_simp) | go_simp)
  have k0_4_w1 : w1.cell? ⟨w.heap.size, 4, none⟩ = some (.int .i64 (0)) := (by first | exact (c_w1 _ _ (by omega)).trans (by go_simp) | go_simp)
  have l0_4_w1 : w1.frozen? ⟨w.heap.size, 4, none⟩ = false := (by first | exact (f_w1 _ _ (by omega)).trans (by go_simp) | go_simp)
  have k0_5_w1 : w1.cell? ⟨w.heap.size, 5, none⟩ = some (.int .i64 (0)) := (by first | exact (c_w1 _ _ (by omega)).trans (by go_simp) | go_simp)
  have l0_5_w1 : w1.frozen? ⟨w.heap.size, 5, none⟩ = false := (by first | exact (f_w1 _ _ (by omega)).trans (by go_simp) | go_simp)
  clear c_w1 f_w1
  go_wp2_with fail
  refine wp_region_bl2 11 (fun w' => w'.cell? ⟨w1.heap.size, 0, none⟩ = some (.int .i64 (f.lo)) ∧ w'.cell? ⟨w1.heap.size, 1, none⟩ = some (.int .i64 (f.hi))) (by kernel_rfl) (by kernel_rfl) (by rfl) (fun w' hw' => ?_) (fun hS => ?_)
  focus exact ⟨(hw'.cell (p := ⟨w1.heap.size, 0, none⟩) (by first | omega | (simp; done) | (simp; omega))).trans (by go_simp), (hw'.cell (p := ⟨w1.heap.size, 1, none⟩) (by first | omega | (simp; done) | (simp; omega))).trans (by go_simp)⟩
  have HS := Lib.hid hS; clear hS
  simp only [List.take_succ_cons, List.take_zero, List.drop_succ_cons, List.drop_zero]
  repeat (first | (refine wpBl_op ?_ ?_ (fun K hK => ?_); (focus rfl); (focus rfl); apply Exists.intro; refine ⟨fun w' hw' => ?_, ?_⟩; (focus (first | (go_simp; first | (go_at_call 122; exact sSin_any _ _ (by omega) (by omega)) | (go_at_call 124; exact sCos_any _ _ (by omega) (by omega)) | (go_at_call 125; exact sMul_any _ _ _ _ _ (by omega) (by omega) (by omega) (by omega) (by omega) (by omega) (by omega) (by omega))) | (obtain ⟨kr0, kr1⟩ := HS.out w' hw'; go_simp; rfl))); go_simp; refine hK _ ?_; clear hK K) | (refine wpBl_mk ?_ ?_ (fun K hK => ⟨fun g => .pointer (some ⟨g, 0, none⟩), ?_⟩); (focus rfl); (focus rfl); apply Exists.intro; refine ⟨fun w' => ?_, ?_⟩; (focus (go_simp; rfl)); go_simp; refine hK _ _ _ ?_; clear hK K) | (refine wpBl_no ?_ ?_ (fun K hK => ?_); (focus rfl); (focus rfl); go_simp; refine hK _ ?_; clear hK K))
  refine wpBl_end (fun w2 b_w2 => TailW_nil ?_)
  obtain ⟨c_w2, f_w2, z_w2⟩ := bfacts b_w2 (by first | (simp; rfl) | rfl)
  have y0_w2 : w.heap.size < w2.heap.size := (by omega)
  have k0_0_w2 : w2.cell? ⟨w.heap.size, 0, none⟩ = some (.int .i64 (0)) := (by first | exact (c_w2 _ _ (by omega)).trans (by go_simp) | go_simp)
  have l0_0_w2 : w2.frozen? ⟨w.heap.size, 0, none⟩ = false := (by first | exact (f_w2 _ _ (by omega)).trans (by go_simp) | go_simp)
  have k0_1_w2 : w2.cell? ⟨w.heap.size, 1, none⟩ = some (.int .i64 (0)) := (by first | exact (c_w2 _ _ (by omega)).trans (by go_simp) | go_simp)
  have l0_1_w2 : w2.frozen? ⟨w.heap.size, 1, none⟩ = false := (by first | exact (f_w2 _ _ (by omega)).trans (by go_simp) | go_simp)
  have k0_2_w2 : w2.cell? ⟨w.heap.size, 2, none⟩ = some (.int .i64 (0)) := (by first | exact (c_w2 _ _ (by omega)).trans (by go_simp) | go_simp)
  have l0_2_w2 : w2.frozen? ⟨w.heap.size, 2, none⟩ = false := (by first | exact (f_w2 _ _ (by omega)).trans (by go_simp) | go_simp)
  have k0_3_w2 : w2.cell? ⟨w.heap.size, 3, none⟩ = some (.int .i64 (0)) := (by first | exact (c_w2 _ _ (by omega)).trans (by go_simp) | go_simp)
  have l0_3_w2 : w2.frozen? ⟨w.heap.size, 3, none⟩ = false := (by first | exact (f_w2 _ _ (by omega)).trans (by go_simp) | go_simp)
  have k0_4_w2 : w2.cell? ⟨w.heap.size, 4, none⟩ = some (.int .i64 (0)) := (by first | exact (c_w2 _ _ (by omega)).trans (by go_simp) | go_simp)
  have l0_4_w2 : w2.frozen? ⟨w.heap.size, 4, none⟩ = false := (by first | exact (f_w2 _ _ (by omega)).trans (by go_simp) | go_simp)
  have k0_5_w2 : w2.cell? ⟨w.heap.size, 5, none⟩ = some (.int .i64 (0)) := (by first | exact (c_w2 _ _ (by omega)).trans (by go_simp) | go_simp)
  have l0_5_w2 : w2.frozen? ⟨w.heap.size, 5, none⟩ = false := (by first | exact (f_w2 _ _ (by omega)).trans (by go_simp) | go_simp)
  clear c_w2 f_w2
  clear HS
  go_simp
  go_wp2
  exact bodyPost_ret (v := (.agg #[.int .i64 (p.lo), .int .i64 (p.hi), .int .i64 (q.lo), .int .i64 (q.hi), .int .i64 (h.lo), .int .i64 (h.hi)])) (by simp [results, Tryz.results137, go_sem, *]) rfl ⟨rfl, by (repeat' (first | with_reducible exact Below.refl _ _ | with_reducible refine Below.setCell ?_ ?_ _ | with_reducible refine Below.drew ?_ | with_reducible refine below_drewN ?_ _ | with_reducible refine Below.alloc ?_ ?_ _ | with_reducible refine below_step b_w2 ?_ ?_ | with_reducible refine below_step b_w1 ?_ ?_ | omega | (simp; done) | (simp; omega)))⟩
theorem sTo_any (az al : Int) (w : World) (z0 : -4000000000000000 ≤ az) (z1 : az ≤ 4000000000000000) (a0 : -4000000000000000 ≤ al) (a1 : al ≤ 4000000000000000) :
    Calls Tryz.prog 137 #[.int .i64 az, .int .i64 al] w fun e w' => e = .returned (.agg #[.int .i64 ((toV az al).x.lo), .int .i64 ((toV az al).x.hi), .int .i64 ((toV az al).y.lo), .int .i64 ((toV az al).y.hi), .int .i64 ((toV az al).z.lo), .int .i64 ((toV az al).z.hi)]) ∧ Below w.heap.size w w' :=
  sTo_walk az al w z0 z1 a0 a1 (siI az) (siI (az + 324000)) (siI (al + 324000)) (siI al) (muI (siI az) (siI (al + 324000))) (muI (siI (az + 324000)) (siI (al + 324000))) rfl rfl rfl rfl rfl rfl rfl rfl rfl rfl (siI_bd _) (siI_bd _) (siI_bd _)

set_option maxHeartbeats 4000000 in
theorem dot_walk (v u : V3) (w : World) (b0 : -10000000 ≤ v.x.lo) (b0' : v.x.lo ≤ 10000000) (b1 : -10000000 ≤ v.x.hi) (b1' : v.x.hi ≤ 10000000) (b2 : -10000000 ≤ v.y.lo) (b2' : v.y.lo ≤ 10000000) (b3 : -10000000 ≤ v.y.hi) (b3' : v.y.hi ≤ 10000000) (b4 : -10000000 ≤ v.z.lo) (b4' : v.z.lo ≤ 10000000) (b5 : -10000000 ≤ v.z.hi) (b5' : v.z.hi ≤ 10000000) (d0 : -10000000 ≤ u.x.lo) (d0' : u.x.lo ≤ 10000000) (d1 : -10000000 ≤ u.x.hi) (d1' : u.x.hi ≤ 10000000) (d2 : -10000000 ≤ u.y.lo) (d2' : u.y.lo ≤ 10000000) (d3 : -10000000 ≤ u.y.hi) (d3' : u.y.hi ≤ 10000000) (d4 : -10000000 ≤ u.z.lo) (d4' : u.z.lo ≤ 10000000) (d5 : -10000000 ≤ u.z.hi) (d5' : u.z.hi ≤ 10000000)
    (p1 p2 p3 q r : Iv)
    (e1 : muI ⟨v.x.lo, v.x.hi⟩ ⟨u.x.lo, u.x.hi⟩ = p1) (e2 : muI ⟨v.y.lo, v.y.hi⟩ ⟨u.y.lo, u.y.hi⟩ = p2) (e3 : muI ⟨v.z.lo, v.z.hi⟩ ⟨u.z.lo, u.z.hi⟩ = p3)
    (e4 : plI ⟨p1.lo, p1.hi⟩ ⟨p2.lo, p2.hi⟩ = q) (e5 : plI ⟨q.lo, q.hi⟩ ⟨p3.lo, p3.hi⟩ = r)
    (q1 : -100000001 ≤ p1.lo ∧ p1.lo ≤ 100000001 ∧ -100000001 ≤ p1.hi ∧ p1.hi ≤ 100000001) (q2 : -100000001 ≤ p2.lo ∧ p2.lo ≤ 100000001 ∧ -100000001 ≤ p2.hi ∧ p2.hi ≤ 100000001) (q3 : -100000001 ≤ p3.lo ∧ p3.lo ≤ 100000001 ∧ -100000001 ≤ p3.hi ∧ p3.hi ≤ 100000001)
    (q4 : -200000002 ≤ q.lo ∧ q.lo ≤ 200000002 ∧ -200000002 ≤ q.hi ∧ q.hi ≤ 200000002) :
    Calls Tryz.prog 183 #[(.agg #[.int .i64 (v.x.lo), .int .i64 (v.x.hi), .int .i64 (v.y.lo), .int .i64 (v.y.hi), .int .i64 (v.z.lo), .int .i64 (v.z.hi)]), (.agg #[.int .i64 (u.x.lo), .int .i64 (u.x.hi), .int .i64 (u.y.lo), .int .i64 (u.y.hi), .int .i64 (u.z.lo), .int .i64 (u.z.hi)])] w fun e w' => e = .returned (.agg #[.int .i64 (r.lo), .int .i64 (r.hi)]) ∧ Below w.heap.size w w' := by
  obtain ⟨q10, q11, q12, q13⟩ := q1
  obtain ⟨q20, q21, q22, q23⟩ := q2
  obtain ⟨q30, q31, q32, q33⟩ := q3
  obtain ⟨q40, q41, q42, q43⟩ := q4
  go_enter Tryz.func183, Tryz.ntmps183
  go_wp2_with fail
  refine wp_region_bl2 17 (fun w' => w'.cell? ⟨w.heap.size, 0, none⟩ = some (.int .i64 (v.x.lo)) ∧ w'.cell? ⟨w.heap.size, 1, none⟩ = some (.int .i64 (v.x.hi)) ∧ w'.cell? ⟨w.heap.size, 2, none⟩ = some (.int .i64 (v.y.lo)) ∧ w'.cell? ⟨w.heap.size, 3, none⟩ = some (.int .i64 (v.y.hi)) ∧ w'.cell? ⟨w.heap.size, 4, none⟩ = some (.int .i64 (v.z.lo)) ∧ w'.cell? ⟨w.heap.size, 5, none⟩ = some (.int .i64 (v.z.hi)) ∧ w'.cell? ⟨w.heap.size + 1, 0, none⟩ = some (.int .i64 (u.x.lo)) ∧ w'.cell? ⟨w.heap.size + 1, 1, none⟩ = some (.int .i64 (u.x.hi)) ∧ w'.cell? ⟨w.heap.size + 1, 2, none⟩ = some (.int .i64 (u.y.lo)) ∧ w'.cell? ⟨w.heap.size + 1, 3, none⟩ = some (.int .i64 (u.y.hi)) ∧ w'.cell? ⟨w.heap.size + 1, 4, none⟩ = some (.int .i64 (u.z.lo)) ∧ w'.cell? ⟨w.heap.size + 1, 5, none⟩ = some (.int .i64 (u.z.hi))) (by kernel_rfl) (by kernel_rfl) (by rfl) (fun w' hw' => ?_) (fun hS => ?_)
  focus exact ⟨(hw'.cell (p := ⟨w.heap.size, 0, none⟩) (by first | omega | (simp; done) | (simp; omega))).trans (by go_simp), (hw'.cell (p := ⟨w.heap.size, 1, none⟩) (by first | omega | (simp; done) | (simp; omega))).trans (by go_simp), (hw'.cell (p := ⟨w.heap.size, 2, none⟩) (by first | omega | (simp; done) | (simp; omega))).trans (by go_simp), (hw'.cell (p := ⟨w.heap.size, 3, none⟩) (by first | omega | (simp; done) | (simp; omega))).trans (by go_simp), (hw'.cell (p := ⟨w.heap.size, 4, none⟩) (by first | omega | (simp; done) | (simp; omega))).trans (by go_simp), (hw'.cell (p := ⟨w.heap.size, 5, none⟩) (by first | omega | (simp; done) | (simp; omega))).trans (by go_simp), (hw'.cell (p := ⟨w.heap.size + 1, 0, none⟩) (by first | omega | (simp; done) | (simp; omega))).trans (by go_simp), (hw'.cell (p := ⟨w.heap.size + 1, 1, none⟩) (by first | omega | (simp; done) | (simp; omega))).trans (by go_simp), (hw'.cell (p := ⟨w.heap.size + 1, 2, none⟩) (by first | omega | (simp; done) | (simp; omega))).trans (by go_simp), (hw'.cell (p := ⟨w.heap.size + 1, 3, none⟩) (by first | omega | (simp; done) | (simp; omega))).trans (by go_simp), (hw'.cell (p := ⟨w.heap.size + 1, 4, none⟩) (by first | omega | (simp; done) | (simp; omega))).trans (by go_simp), (hw'.cell (p := ⟨w.heap.size + 1, 5, none⟩) (by first | omega | (simp; done) | (simp; omega))).trans (by go_simp)⟩
  have HS := Lib.hid hS; clear hS
  simp only [List.take_succ_cons, List.take_zero, List.drop_succ_cons, List.drop_zero]
  repeat (first | (refine wpBl_op ?_ ?_ (fun K hK => ?_); (focus rfl); (focus rfl); apply Exists.intro; refine ⟨fun w' hw' => ?_, ?_⟩; (focus (first | (go_simp; first | (go_at_call 110; exact times_any _ _ _ _ _ (by omega) (by omega) (by omega) (by omega) (by omega) (by omega) (by omega) (by omega)) | (go_at_call 117; exact plus_any _ _ _ _ _ (by omega) (by omega) (by omega) (by omega) (by omega) (by omega) (by omega) (by omega))) | (obtain ⟨kr0, kr1, kr2, kr3, kr4, kr5, kr6, kr7, kr8, kr9, kr10, kr11⟩ := HS.out w' hw'; go_simp; rfl))); go_simp; refine hK _ ?_; clear hK K) | (refine wpBl_mk ?_ ?_ (fun K hK => ⟨fun g => .pointer (some ⟨g, 0, none⟩), ?_⟩); (focus rfl); (focus rfl); apply Exists.intro; refine ⟨fun w' => ?_, ?_⟩; (focus (go_simp; rfl)); go_simp; refine hK _ _ _ ?_; clear hK K) | (refine wpBl_no ?_ ?_ (fun K hK => ?_); (focus rfl); (focus rfl); go_simp; refine hK _ ?_; clear hK K))
  refine wpBl_end (fun w1 b_w1 => TailW_nil ?_)
  obtain ⟨c_w1, f_w1, z_w1⟩ := bfacts b_w1 (by first | (simp; rfl) | rfl)
  have y0_w1 : w.heap.size + 1 + 1 < w1.heap.size := (by omega)
  have yb0_w1 : w.heap.size + 1 < w1.heap.size := (by omega)
  have yb1_w1 : w.heap.size < w1.heap.size := (by omega)
  have k0_0_w1 : w1.cell? ⟨w.heap.size + 1 + 1, 0, none⟩ = some (.int .i64 (0)) := (by first | exact (c_w1 _ _ (by omega)).trans (by go_simp) | go_simp)
  have l0_0_w1 : w1.frozen? ⟨w.heap.size + 1 + 1, 0, none⟩ = false := (by first | exact (f_w1 _ _ (by omega)).trans (by go_simp) | go_simp)
  have k0_1_w1 : w1.cell? ⟨w.heap.size + 1 + 1, 1, none⟩ = some (.int .i64 (0)) := (by first | exact (c_w1 _ _ (by omega)).trans (by go_simp) | go_simp)
  have l0_1_w1 : w1.frozen? ⟨w.heap.size + 1 + 1, 1, none⟩ = false := (by first | exact (f_w1 _ _ (by omega)).trans (by go_simp) | go_simp)
  clear c_w1 f_w1
  clear HS
  go_simp
  go_wp2
  exact bodyPost_ret (v := (.agg #[.int .i64 (r.lo), .int .i64 (r.hi)])) (by simp [results, Tryz.results183, go_sem, *]) rfl ⟨rfl, by (repeat' (first | with_reducible exact Below.refl _ _ | with_reducible refine Below.setCell ?_ ?_ _ | with_reducible refine Below.drew ?_ | with_reducible refine below_drewN ?_ _ | with_reducible refine Below.alloc ?_ ?_ _ | with_reducible refine below_step b_w1 ?_ ?_ | omega | (simp; done) | (simp; omega)))⟩
theorem dot_any (v u : V3) (w : World) (b0 : -10000000 ≤ v.x.lo) (b0' : v.x.lo ≤ 10000000) (b1 : -10000000 ≤ v.x.hi) (b1' : v.x.hi ≤ 10000000) (b2 : -10000000 ≤ v.y.lo) (b2' : v.y.lo ≤ 10000000) (b3 : -10000000 ≤ v.y.hi) (b3' : v.y.hi ≤ 10000000) (b4 : -10000000 ≤ v.z.lo) (b4' : v.z.lo ≤ 10000000) (b5 : -10000000 ≤ v.z.hi) (b5' : v.z.hi ≤ 10000000) (d0 : -10000000 ≤ u.x.lo) (d0' : u.x.lo ≤ 10000000) (d1 : -10000000 ≤ u.x.hi) (d1' : u.x.hi ≤ 10000000) (d2 : -10000000 ≤ u.y.lo) (d2' : u.y.lo ≤ 10000000) (d3 : -10000000 ≤ u.y.hi) (d3' : u.y.hi ≤ 10000000) (d4 : -10000000 ≤ u.z.lo) (d4' : u.z.lo ≤ 10000000) (d5 : -10000000 ≤ u.z.hi) (d5' : u.z.hi ≤ 10000000) :
    Calls Tryz.prog 183 #[(.agg #[.int .i64 (v.x.lo), .int .i64 (v.x.hi), .int .i64 (v.y.lo), .int .i64 (v.y.hi), .int .i64 (v.z.lo), .int .i64 (v.z.hi)]), (.agg #[.int .i64 (u.x.lo), .int .i64 (u.x.hi), .int .i64 (u.y.lo), .int .i64 (u.y.hi), .int .i64 (u.z.lo), .int .i64 (u.z.hi)])] w fun e w' => e = .returned (.agg #[.int .i64 ((doV v u).lo), .int .i64 ((doV v u).hi)]) ∧ Below w.heap.size w w' := by
  have m1 := muI_ab v.x.lo v.x.hi u.x.lo u.x.hi b0 b0' b1 b1' d0 d0' d1 d1'
  have m2 := muI_ab v.y.lo v.y.hi u.y.lo u.y.hi b2 b2' b3 b3' d2 d2' d3 d3'
  have m3 := muI_ab v.z.lo v.z.hi u.z.lo u.z.hi b4 b4' b5 b5' d4 d4' d5 d5'
  exact dot_walk v u w b0 b0' b1 b1' b2 b2' b3 b3' b4 b4' b5 b5' d0 d0' d1 d1' d2 d2' d3 d3' d4 d4' d5 d5' (muI v.x u.x) (muI v.y u.y) (muI v.z u.z) (plI (muI v.x u.x) (muI v.y u.y)) (doV v u) rfl rfl rfl rfl rfl m1 m2 m3 (by
    have h1 : -100000001 ≤ (muI v.x u.x).lo ∧ (muI v.x u.x).lo ≤ 100000001 ∧ -100000001 ≤ (muI v.x u.x).hi ∧ (muI v.x u.x).hi ≤ 100000001 := m1
    have h2 : -100000001 ≤ (muI v.y u.y).lo ∧ (muI v.y u.y).lo ≤ 100000001 ∧ -100000001 ≤ (muI v.y u.y).hi ∧ (muI v.y u.y).hi ≤ 100000001 := m2
    unfold plI; dsimp only; omega)

set_option maxHeartbeats 4000000 in
theorem sDot_walk (v u : V3) (w : World) (b0 : -10000000 ≤ v.x.lo) (b0' : v.x.lo ≤ 10000000) (b1 : -10000000 ≤ v.x.hi) (b1' : v.x.hi ≤ 10000000) (b2 : -10000000 ≤ v.y.lo) (b2' : v.y.lo ≤ 10000000) (b3 : -10000000 ≤ v.y.hi) (b3' : v.y.hi ≤ 10000000) (b4 : -10000000 ≤ v.z.lo) (b4' : v.z.lo ≤ 10000000) (b5 : -10000000 ≤ v.z.hi) (b5' : v.z.hi ≤ 10000000) (d0 : -10000000 ≤ u.x.lo) (d0' : u.x.lo ≤ 10000000) (d1 : -10000000 ≤ u.x.hi) (d1' : u.x.hi ≤ 10000000) (d2 : -10000000 ≤ u.y.lo) (d2' : u.y.lo ≤ 10000000) (d3 : -10000000 ≤ u.y.hi) (d3' : u.y.hi ≤ 10000000) (d4 : -10000000 ≤ u.z.lo) (d4' : u.z.lo ≤ 10000000) (d5 : -10000000 ≤ u.z.hi) (d5' : u.z.hi ≤ 10000000)
    (p1 p2 p3 q r : Iv)
    (e1 : muI ⟨v.x.lo, v.x.hi⟩ ⟨u.x.lo, u.x.hi⟩ = p1) (e2 : muI ⟨v.y.lo, v.y.hi⟩ ⟨u.y.lo, u.y.hi⟩ = p2) (e3 : muI ⟨v.z.lo, v.z.hi⟩ ⟨u.z.lo, u.z.hi⟩ = p3)
    (e4 : plI ⟨p1.lo, p1.hi⟩ ⟨p2.lo, p2.hi⟩ = q) (e5 : plI ⟨q.lo, q.hi⟩ ⟨p3.lo, p3.hi⟩ = r)
    (q1 : -100000001 ≤ p1.lo ∧ p1.lo ≤ 100000001 ∧ -100000001 ≤ p1.hi ∧ p1.hi ≤ 100000001) (q2 : -100000001 ≤ p2.lo ∧ p2.lo ≤ 100000001 ∧ -100000001 ≤ p2.hi ∧ p2.hi ≤ 100000001) (q3 : -100000001 ≤ p3.lo ∧ p3.lo ≤ 100000001 ∧ -100000001 ≤ p3.hi ∧ p3.hi ≤ 100000001)
    (q4 : -200000002 ≤ q.lo ∧ q.lo ≤ 200000002 ∧ -200000002 ≤ q.hi ∧ q.hi ≤ 200000002) :
    Calls Tryz.prog 138 #[(.agg #[.int .i64 (v.x.lo), .int .i64 (v.x.hi), .int .i64 (v.y.lo), .int .i64 (v.y.hi), .int .i64 (v.z.lo), .int .i64 (v.z.hi)]), (.agg #[.int .i64 (u.x.lo), .int .i64 (u.x.hi), .int .i64 (u.y.lo), .int .i64 (u.y.hi), .int .i64 (u.z.lo), .int .i64 (u.z.hi)])] w fun e w' => e = .returned (.agg #[.int .i64 (r.lo), .int .i64 (r.hi)]) ∧ Below w.heap.size w w' := by
  obtain ⟨q10, q11, q12, q13⟩ := q1
  obtain ⟨q20, q21, q22, q23⟩ := q2
  obtain ⟨q30, q31, q32, q33⟩ := q3
  obtain ⟨q40, q41, q42, q43⟩ := q4
  go_enter Tryz.func138, Tryz.ntmps138
  go_wp2_with fail
  refine wp_region_bl2 17 (fun w' => w'.cell? ⟨w.heap.size, 0, none⟩ = some (.int .i64 (v.x.lo)) ∧ w'.cell? ⟨w.heap.size, 1, none⟩ = some (.int .i64 (v.x.hi)) ∧ w'.cell? ⟨w.heap.size, 2, none⟩ = some (.int .i64 (v.y.lo)) ∧ w'.cell? ⟨w.heap.size, 3, none⟩ = some (.int .i64 (v.y.hi)) ∧ w'.cell? ⟨w.heap.size, 4, none⟩ = some (.int .i64 (v.z.lo)) ∧ w'.cell? ⟨w.heap.size, 5, none⟩ = some (.int .i64 (v.z.hi)) ∧ w'.cell? ⟨w.heap.size + 1, 0, none⟩ = some (.int .i64 (u.x.lo)) ∧ w'.cell? ⟨w.heap.size + 1, 1, none⟩ = some (.int .i64 (u.x.hi)) ∧ w'.cell? ⟨w.heap.size + 1, 2, none⟩ = some (.int .i64 (u.y.lo)) ∧ w'.cell? ⟨w.heap.size + 1, 3, none⟩ = some (.int .i64 (u.y.hi)) ∧ w'.cell? ⟨w.heap.size + 1, 4, none⟩ = some (.int .i64 (u.z.lo)) ∧ w'.cell? ⟨w.heap.size + 1, 5, none⟩ = some (.int .i64 (u.z.hi))) (by kernel_rfl) (by kernel_rfl) (by rfl) (fun w' hw' => ?_) (fun hS => ?_)
  focus exact ⟨(hw'.cell (p := ⟨w.heap.size, 0, none⟩) (by first | omega | (simp; done) | (simp; omega))).trans (by go_simp), (hw'.cell (p := ⟨w.heap.size, 1, none⟩) (by first | omega | (simp; done) | (simp; omega))).trans (by go_simp), (hw'.cell (p := ⟨w.heap.size, 2, none⟩) (by first | omega | (simp; done) | (simp; omega))).trans (by go_simp), (hw'.cell (p := ⟨w.heap.size, 3, none⟩) (by first | omega | (simp; done) | (simp; omega))).trans (by go_simp), (hw'.cell (p := ⟨w.heap.size, 4, none⟩) (by first | omega | (simp; done) | (simp; omega))).trans (by go_simp), (hw'.cell (p := ⟨w.heap.size, 5, none⟩) (by first | omega | (simp; done) | (simp; omega))).trans (by go_simp), (hw'.cell (p := ⟨w.heap.size + 1, 0, none⟩) (by first | omega | (simp; done) | (simp; omega))).trans (by go_simp), (hw'.cell (p := ⟨w.heap.size + 1, 1, none⟩) (by first | omega | (simp; done) | (simp; omega))).trans (by go_simp), (hw'.cell (p := ⟨w.heap.size + 1, 2, none⟩) (by first | omega | (simp; done) | (simp; omega))).trans (by go_simp), (hw'.cell (p := ⟨w.heap.size + 1, 3, none⟩) (by first | omega | (simp; done) | (simp; omega))).trans (by go_simp), (hw'.cell (p := ⟨w.heap.size + 1, 4, none⟩) (by first | omega | (simp; done) | (simp; omega))).trans (by go_simp), (hw'.cell (p := ⟨w.heap.size + 1, 5, none⟩) (by first | omega | (simp; done) | (simp; omega))).trans (by go_simp)⟩
  have HS := Lib.hid hS; clear hS
  simp only [List.take_succ_cons, List.take_zero, List.drop_succ_cons, List.drop_zero]
  repeat (first | (refine wpBl_op ?_ ?_ (fun K hK => ?_); (focus rfl); (focus rfl); apply Exists.intro; refine ⟨fun w' hw' => ?_, ?_⟩; (focus (first | (go_simp; first | (go_at_call 125; exact sMul_any _ _ _ _ _ (by omega) (by omega) (by omega) (by omega) (by omega) (by omega) (by omega) (by omega)) | (go_at_call 127; exact sAdd_any _ _ _ _ _ (by omega) (by omega) (by omega) (by omega) (by omega) (by omega) (by omega) (by omega))) | (obtain ⟨kr0, kr1, kr2, kr3, kr4, kr5, kr6, kr7, kr8, kr9, kr10, kr11⟩ := HS.out w' hw'; go_simp; rfl))); go_simp; refine hK _ ?_; clear hK K) | (refine wpBl_mk ?_ ?_ (fun K hK => ⟨fun g => .pointer (some ⟨g, 0, none⟩), ?_⟩); (focus rfl); (focus rfl); apply Exists.intro; refine ⟨fun w' => ?_, ?_⟩; (focus (go_simp; rfl)); go_simp; refine hK _ _ _ ?_; clear hK K) | (refine wpBl_no ?_ ?_ (fun K hK => ?_); (focus rfl); (focus rfl); go_simp; refine hK _ ?_; clear hK K))
  refine wpBl_end (fun w1 b_w1 => TailW_nil ?_)
  obtain ⟨c_w1, f_w1, z_w1⟩ := bfacts b_w1 (by first | (simp; rfl) | rfl)
  have y0_w1 : w.heap.size + 1 + 1 < w1.heap.size := (by omega)
  have yb0_w1 : w.heap.size + 1 < w1.heap.size := (by omega)
  have yb1_w1 : w.heap.size < w1.heap.size := (by omega)
  have k0_0_w1 : w1.cell? ⟨w.heap.size + 1 + 1, 0, none⟩ = some (.int .i64 (0)) := (by first | exact (c_w1 _ _ (by omega)).trans (by go_simp) | go_simp)
  have l0_0_w1 : w1.frozen? ⟨w.heap.size + 1 + 1, 0, none⟩ = false := (by first | exact (f_w1 _ _ (by omega)).trans (by go_simp) | go_simp)
  have k0_1_w1 : w1.cell? ⟨w.heap.size + 1 + 1, 1, none⟩ = some (.int .i64 (0)) := (by first | exact (c_w1 _ _ (by omega)).trans (by go_simp) | go_simp)
  have l0_1_w1 : w1.frozen? ⟨w.heap.size + 1 + 1, 1, none⟩ = false := (by first | exact (f_w1 _ _ (by omega)).trans (by go_simp) | go_simp)
  clear c_w1 f_w1
  clear HS
  go_simp
  go_wp2
  exact bodyPost_ret (v := (.agg #[.int .i64 (r.lo), .int .i64 (r.hi)])) (by simp [results, Tryz.results138, go_sem, *]) rfl ⟨rfl, by (repeat' (first | with_reducible exact Below.refl _ _ | with_reducible refine Below.setCell ?_ ?_ _ | with_reducible refine Below.drew ?_ | with_reducible refine below_drewN ?_ _ | with_reducible refine Below.alloc ?_ ?_ _ | with_reducible refine below_step b_w1 ?_ ?_ | omega | (simp; done) | (simp; omega)))⟩
theorem sDot_any (v u : V3) (w : World) (b0 : -10000000 ≤ v.x.lo) (b0' : v.x.lo ≤ 10000000) (b1 : -10000000 ≤ v.x.hi) (b1' : v.x.hi ≤ 10000000) (b2 : -10000000 ≤ v.y.lo) (b2' : v.y.lo ≤ 10000000) (b3 : -10000000 ≤ v.y.hi) (b3' : v.y.hi ≤ 10000000) (b4 : -10000000 ≤ v.z.lo) (b4' : v.z.lo ≤ 10000000) (b5 : -10000000 ≤ v.z.hi) (b5' : v.z.hi ≤ 10000000) (d0 : -10000000 ≤ u.x.lo) (d0' : u.x.lo ≤ 10000000) (d1 : -10000000 ≤ u.x.hi) (d1' : u.x.hi ≤ 10000000) (d2 : -10000000 ≤ u.y.lo) (d2' : u.y.lo ≤ 10000000) (d3 : -10000000 ≤ u.y.hi) (d3' : u.y.hi ≤ 10000000) (d4 : -10000000 ≤ u.z.lo) (d4' : u.z.lo ≤ 10000000) (d5 : -10000000 ≤ u.z.hi) (d5' : u.z.hi ≤ 10000000) :
    Calls Tryz.prog 138 #[(.agg #[.int .i64 (v.x.lo), .int .i64 (v.x.hi), .int .i64 (v.y.lo), .int .i64 (v.y.hi), .int .i64 (v.z.lo), .int .i64 (v.z.hi)]), (.agg #[.int .i64 (u.x.lo), .int .i64 (u.x.hi), .int .i64 (u.y.lo), .int .i64 (u.y.hi), .int .i64 (u.z.lo), .int .i64 (u.z.hi)])] w fun e w' => e = .returned (.agg #[.int .i64 ((doV v u).lo), .int .i64 ((doV v u).hi)]) ∧ Below w.heap.size w w' := by
  have m1 := muI_ab v.x.lo v.x.hi u.x.lo u.x.hi b0 b0' b1 b1' d0 d0' d1 d1'
  have m2 := muI_ab v.y.lo v.y.hi u.y.lo u.y.hi b2 b2' b3 b3' d2 d2' d3 d3'
  have m3 := muI_ab v.z.lo v.z.hi u.z.lo u.z.hi b4 b4' b5 b5' d4 d4' d5 d5'
  exact sDot_walk v u w b0 b0' b1 b1' b2 b2' b3 b3' b4 b4' b5 b5' d0 d0' d1 d1' d2 d2' d3 d3' d4 d4' d5 d5' (muI v.x u.x) (muI v.y u.y) (muI v.z u.z) (plI (muI v.x u.x) (muI v.y u.y)) (doV v u) rfl rfl rfl rfl rfl m1 m2 m3 (by
    have h1 : -100000001 ≤ (muI v.x u.x).lo ∧ (muI v.x u.x).lo ≤ 100000001 ∧ -100000001 ≤ (muI v.x u.x).hi ∧ (muI v.x u.x).hi ≤ 100000001 := m1
    have h2 : -100000001 ≤ (muI v.y u.y).lo ∧ (muI v.y u.y).lo ≤ 100000001 ∧ -100000001 ≤ (muI v.y u.y).hi ∧ (muI v.y u.y).hi ≤ 100000001 := m2
    unfold plI; dsimp only; omega)

set_option maxHeartbeats 4000000 in
theorem axes_any (az sl : Int) (w : World) (z0 : -4000000000000 ≤ az) (z1 : az ≤ 4000000000000) (a0 : -4000000000000 ≤ sl) (a1 : sl ≤ 4000000000000) :
    Calls Tryz.prog 182 #[(.agg #[.int .i64 (az), .int .i64 (sl)])] w fun e w' => ∃ g : Nat, e = .returned (.slice (some ⟨g, 0, none⟩) 3 3) ∧ w.heap.size ≤ g ∧ w'.heap[g]? = some (.cells #[.int .i64 (toV (az - 324000) 0).x.lo, .int .i64 (toV (az - 324000) 0).x.hi, .int .i64 (toV (az - 324000) 0).y.lo, .int .i64 (toV (az - 324000) 0).y.hi, .int .i64 (toV (az - 324000) 0).z.lo, .int .i64 (toV (az - 324000) 0).z.hi, .int .i64 (toV az (sl + 324000)).x.lo, .int .i64 (toV az (sl + 324000)).x.hi, .int .i64 (toV az (sl + 324000)).y.lo, .int .i64 (toV az (sl + 324000)).y.hi, .int .i64 (toV az (sl + 324000)).z.lo, .int .i64 (toV az (sl + 324000)).z.hi, .int .i64 (toV az sl).x.lo, .int .i64 (toV az sl).x.hi, .int .i64 (toV az sl).y.lo, .int .i64 (toV az sl).y.hi, .int .i64 (toV az sl).z.lo, .int .i64 (toV az sl).z.hi] 102) ∧ Below w.heap.size w w' := by
  have e1 : IntKind.i64.wrap (az - 324000) = az - 324000 := IntWalk.i64_in _ (by omega)
  have e2 : IntKind.i64.wrap (sl + 324000) = sl + 324000 := IntWalk.i64_in _ (by omega)
  go_enter Tryz.func182, Tryz.ntmps182
  go_wp2_with fail
  refine wp_region_bx2 16 none (.cells #[] 0) (fun w' => w'.cell? ⟨w.heap.size, 0, none⟩ = some (.int .i64 (az)) ∧ w'.cell? ⟨w.heap.size, 1, none⟩ = some (.int .i64 (sl))) (by kernel_rfl) (by kernel_rfl) (by rfl) (fun b hb => by cases hb) (fun w' hw' => ?_) (fun hS => ?_)
  focus exact ⟨hw'.cell (a := ⟨w.heap.size, 0, none⟩) (by go_simp) (by first | (simp; done) | (simp; omega)), hw'.cell (a := ⟨w.heap.size, 1, none⟩) (by go_simp) (by first | (simp; done) | (simp; omega))⟩
  have HS := Lib.hid hS; clear hS
  simp only [List.take_succ_cons, List.take_zero, List.drop_succ_cons, List.drop_zero]
  repeat (first | (refine wpBx_op ?_ (fun K hK => ?_); (focus exact fun _ => rfl); apply Exists.intro; refine ⟨fun γ w' hw' => ?_, ?_⟩; (focus (first | (go_simp; first | (go_at_call 196; exact direction_any _ _ _ (by omega) (by omega) (by omega) (by omega))) | (obtain ⟨kr0, kr1⟩ := HS.out w' hw'; go_simp; rfl))); go_simp; refine hK _ ?_; clear hK K) | (refine wpBx_mk (fun g => .slice (some ⟨g, 0, none⟩) 3 3) ?_ (fun K hK => ?_); (focus exact fun _ => rfl); apply Exists.intro; refine ⟨fun γ w' hw' => ?_, ?_⟩; (focus (go_simp; first | rfl | exact ⟨rfl, rfl⟩ | trivial)); go_simp; refine hK _ _ ?_; clear hK K) | (refine wpBx_no ?_ (fun K hK => ?_); (focus exact fun _ => rfl); go_simp; refine hK _ ?_; clear hK K))
  refine wpBx_end ?_
  intro γ w1 gr_w1 ho_w1
  refine TailX_cons (fun g0_w1 e0_w1 h0_w1 k0_w1 n0_w1 => TailX_nil ?_)
  (try simp only [Nat.zero_add, Nat.reduceAdd] at e0_w1)
  (try simp only [e0_w1])
  clear e0_w1
  clear γ
  clear ho_w1
  have b_w1 := below_of_grown gr_w1
  clear gr_w1
  obtain ⟨c_w1, f_w1, z_w1⟩ := bfacts b_w1 (by first | (simp; rfl) | rfl)
  have hk0_w1 := Lib.hid k0_w1
  obtain ⟨cg0_w1, fg0_w1, zg0_w1⟩ := blk_facts k0_w1
  (try simp at h0_w1)
  (try simp at n0_w1)
  clear k0_w1
  have y0_w1 : w.heap.size < w1.heap.size := (by omega)
  clear HS
  go_simp
  go_wp2
  go_ret
  exact ⟨g0_w1, rfl, by omega, hk0_w1.out, by (repeat' (first | with_reducible exact Below.refl _ _ | with_reducible refine Below.setCell ?_ ?_ _ | with_reducible refine Below.drew ?_ | with_reducible refine below_drewN ?_ _ | with_reducible refine Below.alloc ?_ ?_ _ | with_reducible refine below_step b_w1 ?_ ?_ | omega | (simp; done) | (simp; omega)))⟩

set_option maxHeartbeats 4000000 in
theorem sAxes_any (az sl : Int) (w : World) (z0 : -4000000000000 ≤ az) (z1 : az ≤ 4000000000000) (a0 : -4000000000000 ≤ sl) (a1 : sl ≤ 4000000000000) :
    Calls Tryz.prog 96 #[(.agg #[.int .i64 (az), .int .i64 (sl)])] w fun e w' => ∃ g : Nat, e = .returned (.slice (some ⟨g, 0, none⟩) 3 3) ∧ w.heap.size ≤ g ∧ w'.heap[g]? = some (.cells #[.int .i64 (toV (az - 324000) 0).x.lo, .int .i64 (toV (az - 324000) 0).x.hi, .int .i64 (toV (az - 324000) 0).y.lo, .int .i64 (toV (az - 324000) 0).y.hi, .int .i64 (toV (az - 324000) 0).z.lo, .int .i64 (toV (az - 324000) 0).z.hi, .int .i64 (toV az (sl + 324000)).x.lo, .int .i64 (toV az (sl + 324000)).x.hi, .int .i64 (toV az (sl + 324000)).y.lo, .int .i64 (toV az (sl + 324000)).y.hi, .int .i64 (toV az (sl + 324000)).z.lo, .int .i64 (toV az (sl + 324000)).z.hi, .int .i64 (toV az sl).x.lo, .int .i64 (toV az sl).x.hi, .int .i64 (toV az sl).y.lo, .int .i64 (toV az sl).y.hi, .int .i64 (toV az sl).z.lo, .int .i64 (toV az sl).z.hi] 102) ∧ Below w.heap.size w w' := by
  have e1 : IntKind.i64.wrap (az - 324000) = az - 324000 := IntWalk.i64_in _ (by omega)
  have e2 : IntKind.i64.wrap (sl + 324000) = sl + 324000 := IntWalk.i64_in _ (by omega)
  go_enter Tryz.func96, Tryz.ntmps96
  go_wp2_with fail
  refine wp_region_bx2 16 none (.cells #[] 0) (fun w' => w'.cell? ⟨w.heap.size, 0, none⟩ = some (.int .i64 (az)) ∧ w'.cell? ⟨w.heap.size, 1, none⟩ = some (.int .i64 (sl))) (by kernel_rfl) (by kernel_rfl) (by rfl) (fun b hb => by cases hb) (fun w' hw' => ?_) (fun hS => ?_)
  focus exact ⟨hw'.cell (a := ⟨w.heap.size, 0, none⟩) (by go_simp) (by first | (simp; done) | (simp; omega)), hw'.cell (a := ⟨w.heap.size, 1, none⟩) (by go_simp) (by first | (simp; done) | (simp; omega))⟩
  have HS := Lib.hid hS; clear hS
  simp only [List.take_succ_cons, List.take_zero, List.drop_succ_cons, List.drop_zero]
  repeat (first | (refine wpBx_op ?_ (fun K hK => ?_); (focus exact fun _ => rfl); apply Exists.intro; refine ⟨fun γ w' hw' => ?_, ?_⟩; (focus (first | (go_simp; first | (go_at_call 137; exact sTo_any _ _ _ (by omega) (by omega) (by omega) (by omega))) | (obtain ⟨kr0, kr1⟩ := HS.out w' hw'; go_simp; rfl))); go_simp; refine hK _ ?_; clear hK K) | (refine wpBx_mk (fun g => .slice (some ⟨g, 0, none⟩) 3 3) ?_ (fun K hK => ?_); (focus exact fun _ => rfl); apply Exists.intro; refine ⟨fun γ w' hw' => ?_, ?_⟩; (focus (go_simp; first | rfl | exact ⟨rfl, rfl⟩ | trivial)); go_simp; refine hK _ _ ?_; clear hK K) | (refine wpBx_no ?_ (fun K hK => ?_); (focus exact fun _ => rfl); go_simp; refine hK _ ?_; clear hK K))
  refine wpBx_end ?_
  intro γ w1 gr_w1 ho_w1
  refine TailX_cons (fun g0_w1 e0_w1 h0_w1 k0_w1 n0_w1 => TailX_nil ?_)
  (try simp only [Nat.zero_add, Nat.reduceAdd] at e0_w1)
  (try simp only [e0_w1])
  clear e0_w1
  clear γ
  clear ho_w1
  have b_w1 := below_of_grown gr_w1
  clear gr_w1
  obtain ⟨c_w1, f_w1, z_w1⟩ := bfacts b_w1 (by first | (simp; rfl) | rfl)
  have hk0_w1 := Lib.hid k0_w1
  obtain ⟨cg0_w1, fg0_w1, zg0_w1⟩ := blk_facts k0_w1
  (try simp at h0_w1)
  (try simp at n0_w1)
  clear k0_w1
  have y0_w1 : w.heap.size < w1.heap.size := (by omega)
  clear HS
  go_simp
  go_wp2
  go_ret
  exact ⟨g0_w1, rfl, by omega, hk0_w1.out, by (repeat' (first | with_reducible exact Below.refl _ _ | with_reducible refine Below.setCell ?_ ?_ _ | with_reducible refine Below.drew ?_ | with_reducible refine below_drewN ?_ _ | with_reducible refine Below.alloc ?_ ?_ _ | with_reducible refine below_step b_w1 ?_ ?_ | omega | (simp; done) | (simp; omega)))⟩


end Go.Proofs.YteooegliepbcnaaGreat
