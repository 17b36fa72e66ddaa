/- What the program's functions on intervals return: sums, products, ranges of sines. -/
import Derived.Test.YteooegliepbcnaaGreatA2
import Derived.Test.YteooegliepbcnaaGreatReg
namespace Go.Proofs.YteooegliepbcnaaGreat
set_option linter.unusedVariables false
set_option linter.unusedSimpArgs false
set_option maxRecDepth 10000
open Go.RowKit


set_option maxHeartbeats 400000 in
theorem hull_any (a b c d : Int) (w : World) :
    Calls Tryz.prog 156 #[(.agg #[.int .i64 (a), .int .i64 (b)]), (.agg #[.int .i64 (c), .int .i64 (d)])] w fun e w' => e = .returned (.agg #[.int .i64 ((huI ⟨a, b⟩ ⟨c, d⟩).lo), .int .i64 ((huI ⟨a, b⟩ ⟨c, d⟩).hi)]) ∧ Below w.heap.size w w' := by
  go_enter Tryz.func156, Tryz.ntmps156
  go_wp2
  exact bodyPost_ret (v := (.agg #[.int .i64 ((huI ⟨a, b⟩ ⟨c, d⟩).lo), .int .i64 ((huI ⟨a, b⟩ ⟨c, d⟩).hi)])) (by simp [results, Tryz.results156, go_sem, huI]) rfl ⟨rfl, by (repeat' (first | with_reducible exact Below.refl _ _ | with_reducible assumption | with_reducible refine Below.setCell ?_ ?_ _ | with_reducible refine Below.drew ?_ | with_reducible refine below_drewN ?_ _ | with_reducible refine Below.alloc ?_ ?_ _ | with_reducible refine below_step (by assumption) ?_ ?_ | omega | exact Below.size (by assumption) | (simp; done) | (simp; omega)))⟩

set_option maxHeartbeats 400000 in
theorem plus_any (a b c d : Int) (w : World) (a0 : -4000000000000 ≤ a) (a1 : a ≤ 4000000000000) (b0 : -4000000000000 ≤ b) (b1 : b ≤ 4000000000000) (c0 : -4000000000000 ≤ c) (c1 : c ≤ 4000000000000) (d0 : -4000000000000 ≤ d) (d1 : d ≤ 4000000000000) :
    Calls Tryz.prog 117 #[(.agg #[.int .i64 (a), .int .i64 (b)]), (.agg #[.int .i64 (c), .int .i64 (d)])] w fun e w' => e = .returned (.agg #[.int .i64 ((plI ⟨a, b⟩ ⟨c, d⟩).lo), .int .i64 ((plI ⟨a, b⟩ ⟨c, d⟩).hi)]) ∧ Below w.heap.size w w' := by
  go_enter Tryz.func117, Tryz.ntmps117
  go_wp2
  exact bodyPost_ret (v := (.agg #[.int .i64 ((plI ⟨a, b⟩ ⟨c, d⟩).lo), .int .i64 ((plI ⟨a, b⟩ ⟨c, d⟩).hi)])) (by simp [results, Tryz.results117, go_sem, plI]) rfl ⟨rfl, by (repeat' (first | with_reducible exact Below.refl _ _ | with_reducible assumption | with_reducible refine Below.setCell ?_ ?_ _ | with_reducible refine Below.drew ?_ | with_reducible refine below_drewN ?_ _ | with_reducible refine Below.alloc ?_ ?_ _ | with_reducible refine below_step (by assumption) ?_ ?_ | omega | exact Below.size (by assumption) | (simp; done) | (simp; omega)))⟩

set_option maxHeartbeats 400000 in
theorem minus_any (a b c d : Int) (w : World) (a0 : -4000000000000 ≤ a) (a1 : a ≤ 4000000000000) (b0 : -4000000000000 ≤ b) (b1 : b ≤ 4000000000000) (c0 : -4000000000000 ≤ c) (c1 : c ≤ 4000000000000) (d0 : -4000000000000 ≤ d) (d1 : d ≤ 4000000000000) :
    Calls Tryz.prog 116 #[(.agg #[.int .i64 (a), .int .i64 (b)]), (.agg #[.int .i64 (c), .int .i64 (d)])] w fun e w' => e = .returned (.agg #[.int .i64 ((miI ⟨a, b⟩ ⟨c, d⟩).lo), .int .i64 ((miI ⟨a, b⟩ ⟨c, d⟩).hi)]) ∧ Below w.heap.size w w' := by
  go_enter Tryz.func116, Tryz.ntmps116
  go_wp2
  exact bodyPost_ret (v := (.agg #[.int .i64 ((miI ⟨a, b⟩ ⟨c, d⟩).lo), .int .i64 ((miI ⟨a, b⟩ ⟨c, d⟩).hi)])) (by simp [results, Tryz.results116, go_sem, miI]) rfl ⟨rfl, by (repeat' (first | with_reducible exact Below.refl _ _ | with_reducible assumption | with_reducible refine Below.setCell ?_ ?_ _ | with_reducible refine Below.drew ?_ | with_reducible refine below_drewN ?_ _ | with_reducible refine Below.alloc ?_ ?_ _ | with_reducible refine below_step (by assumption) ?_ ?_ | omega | exact Below.size (by assumption) | (simp; done) | (simp; omega)))⟩

set_option maxHeartbeats 400000 in
theorem shifted_any (a b c : Int) (w : World) (a0 : -4000000000000 ≤ a) (a1 : a ≤ 4000000000000) (b0 : -4000000000000 ≤ b) (b1 : b ≤ 4000000000000) (c0 : -4000000000000 ≤ c) (c1 : c ≤ 4000000000000) :
    Calls Tryz.prog 158 #[(.agg #[.int .i64 (a), .int .i64 (b)]), .int .i64 c] w fun e w' => e = .returned (.agg #[.int .i64 (a + c), .int .i64 (b + c)]) ∧ Below w.heap.size w w' := by
  go_enter Tryz.func158, Tryz.ntmps158
  go_wp2
  exact bodyPost_ret (v := (.agg #[.int .i64 (a + c), .int .i64 (b + c)])) (by simp [results, Tryz.results158, go_sem]) rfl ⟨rfl, by (repeat' (first | with_reducible exact Below.refl _ _ | with_reducible assumption | with_reducible refine Below.setCell ?_ ?_ _ | with_reducible refine Below.drew ?_ | with_reducible refine below_drewN ?_ _ | with_reducible refine Below.alloc ?_ ?_ _ | with_reducible refine below_step (by assumption) ?_ ?_ | omega | exact Below.size (by assumption) | (simp; done) | (simp; omega)))⟩

set_option maxHeartbeats 1000000 in
theorem times_any (a b c d : Int) (w : World) (a0 : -1000000000 ≤ a) (a1 : a ≤ 1000000000) (b0 : -1000000000 ≤ b) (b1 : b ≤ 1000000000) (c0 : -1000000000 ≤ c) (c1 : c ≤ 1000000000) (d0 : -1000000000 ≤ d) (d1 : d ≤ 1000000000) :
    Calls Tryz.prog 110 #[(.agg #[.int .i64 (a), .int .i64 (b)]), (.agg #[.int .i64 (c), .int .i64 (d)])] w fun e w' => e = .returned (.agg #[.int .i64 ((muI ⟨a, b⟩ ⟨c, d⟩).lo), .int .i64 ((muI ⟨a, b⟩ ⟨c, d⟩).hi)]) ∧ Below w.heap.size w w' := by
  have p := mul_abs a0 a1 c0 c1
  have q := mul_abs a0 a1 d0 d1
  have r := mul_abs b0 b1 c0 c1
  have s := mul_abs b0 b1 d0 d1
  have m := mn4_bd p.1 p.2 q.1 q.2 r.1 r.2 s.1 s.2
  have M := mx4_bd p.1 p.2 q.1 q.2 r.1 r.2 s.1 s.2
  go_enter Tryz.func110, Tryz.ntmps110
  go_wp2
  go_quiet (fail)
  go_wp2_with (first | (go_at_call 103; refine (floor_pos _ _ _ (by omega) (by omega) (by omega) (by omega)).mono ?_; rintro e w' ⟨rfl, rfl⟩) | (go_at_call 149; refine (ceil_pos _ _ _ (by omega) (by omega) (by omega) (by omega)).mono ?_; rintro e w' ⟨rfl, rfl⟩))
  exact bodyPost_ret (v := (.agg #[.int .i64 ((muI ⟨a, b⟩ ⟨c, d⟩).lo), .int .i64 ((muI ⟨a, b⟩ ⟨c, d⟩).hi)])) (by simp [results, Tryz.results110, go_sem, muI]) rfl ⟨rfl, by (repeat' (first | with_reducible exact Below.refl _ _ | with_reducible assumption | with_reducible refine Below.setCell ?_ ?_ _ | with_reducible refine Below.drew ?_ | with_reducible refine below_drewN ?_ _ | with_reducible refine Below.alloc ?_ ?_ _ | with_reducible refine below_step (by assumption) ?_ ?_ | omega | exact Below.size (by assumption) | (simp; done) | (simp; omega)))⟩

set_option maxHeartbeats 400000 in
theorem cosine_any (a : Int) (w : World) (h1 : -4611686018427000000 ≤ a) (h2 : a ≤ 4611686018427000000) :
    Calls Tryz.prog 115 #[.int .i64 a] w fun e w' => e = .returned (.agg #[.int .i64 (sL (a + 324000)), .int .i64 (sH (a + 324000))]) ∧ Below w.heap.size w w' := by
  go_enter Tryz.func115, Tryz.ntmps115
  go_wp2_with (go_at_call 109; refine (sine_any _ _ (by omega) (by omega)).mono ?_; rintro e w1 ⟨rfl, b_w1⟩; obtain ⟨c_w1, f_w1, z_w1⟩ := bfacts b_w1 (by first | (simp; rfl) | rfl); have y0_w1 : w.heap.size < w1.heap.size := (by omega))
  exact bodyPost_ret (v := (.agg #[.int .i64 (sL (a + 324000)), .int .i64 (sH (a + 324000))])) (by simp [results, Tryz.results115, go_sem, *]) rfl ⟨rfl, by (repeat' (first | with_reducible exact Below.refl _ _ | with_reducible assumption | with_reducible refine Below.setCell ?_ ?_ _ | with_reducible refine Below.drew ?_ | with_reducible refine below_drewN ?_ _ | with_reducible refine Below.alloc ?_ ?_ _ | with_reducible refine below_step (by assumption) ?_ ?_ | omega | exact Below.size (by assumption) | (simp; done) | (simp; omega)))⟩

set_option maxHeartbeats 400000 in
theorem sineRange1_any (m a : Int) (g : Nat) (w : World) (h0 : w.cell? ⟨g, 0, none⟩ = some (.int .i64 a)) (m0 : -1000000000000 ≤ m) (m1 : m ≤ 1000000000000) (a0 : -2000000000000 ≤ a) (a1 : a ≤ 2000000000000) :
    Calls Tryz.prog 157 #[.int .i64 m, .pointer (some ⟨g, 0, none⟩)] w fun e w' => e = .returned (.int .i64 (a + plM (m - a))) ∧ Below w.heap.size w w' := by
  have hp := plM_bd (m - a)
  have e1 : IntKind.i64.wrap (m - a) = m - a := IntWalk.i64_in _ (by omega)
  have e2 : IntKind.i64.wrap (a + plM (m - a)) = a + plM (m - a) := IntWalk.i64_in _ (by omega)
  go_enter Tryz.func157, Tryz.ntmps157
  go_wp2
  go_quiet ((go_at_call 150; exact Calls.quiet_of_same ((plain_any _ _ (by omega) (by omega)).mono fun _ _ h => ⟨h.1, h.2.symm⟩)))
  clear e1 e2
  go_wp2
  go_ret
  exact ⟨rfl, by (repeat' (first | with_reducible exact Below.refl _ _ | with_reducible assumption | with_reducible refine Below.setCell ?_ ?_ _ | with_reducible refine Below.drew ?_ | with_reducible refine below_drewN ?_ _ | with_reducible refine Below.alloc ?_ ?_ _ | with_reducible refine below_step (by assumption) ?_ ?_ | omega | exact Below.size (by assumption) | (simp; done) | (simp; omega)))⟩

set_option maxHeartbeats 4000000 in
theorem sineRange_any (a b : Int) (w : World) (a0 : -2000000000000 ≤ a) (a1 : a ≤ 2000000000000) (b0 : -2000000000000 ≤ b) (b1 : b ≤ 2000000000000) :
    Calls Tryz.prog 113 #[(.agg #[.int .i64 (a), .int .i64 (b)])] w fun e w' => e = .returned (.agg #[.int .i64 ((srI a b).lo), .int .i64 ((srI a b).hi)]) ∧ Below w.heap.size w w' := by
  have hmf : ∀ (fn : Fn) (first cap : Array Value) (w : World), (Instr.makeFunc fn first cap).run Tryz.prog w = .ok (.func fn first cap) w := fun _ _ _ _ => rfl
  go_enter Tryz.func113, Tryz.ntmps113
  go_wp2_with fail
  refine wp_region_bl2 8 (fun w' => w'.cell? ⟨w.heap.size, 0, none⟩ = some (.int .i64 (a)) ∧ w'.cell? ⟨w.heap.size, 1, none⟩ = some (.int .i64 (b)) ∧ w'.cell? ⟨w.heap.size + 1, 0, none⟩ = some (.int .i64 (0)) ∧ w'.cell? ⟨w.heap.size + 1, 1, none⟩ = some (.int .i64 (0))) (by kernel_rfl) (by kernel_rfl) (by rfl) (fun w' hw' => ?_) (fun hS => ?_)
  focus exact ⟨(hw'.cell (p := ⟨w.heap.size, 0, none⟩) (by first | omega | (simp; done) | (simp; omega))).trans (by go_simp), (hw'.cell (p := ⟨w.heap.size, 1, none⟩) (by first | omega | (simp; done) | (simp; omega))).trans (by go_simp), (hw'.cell (p := ⟨w.heap.size + 1, 0, none⟩) (by first | omega | (simp; done) | (simp; omega))).trans (by go_simp), (hw'.cell (p := ⟨w.heap.size + 1, 1, none⟩) (by first | omega | (simp; done) | (simp; omega))).trans (by go_simp)⟩
  have HS := Lib.hid hS; clear hS
  simp only [List.take_succ_cons, List.take_zero, List.drop_succ_cons, List.drop_zero]
  repeat (first | (refine wpBl_op ?_ ?_ (fun K hK => ?_); (focus rfl); (focus rfl); apply Exists.intro; refine ⟨fun w' hw' => ?_, ?_⟩; (focus (first | (go_simp; first | (go_at_call 109; exact sine_any _ _ (by omega) (by omega)) | (go_at_call 156; exact hull_any _ _ _ _ _)) | (obtain ⟨kr0, kr1, kr2, kr3⟩ := HS.out w' hw'; go_simp; rfl))); go_simp; refine hK _ ?_; clear hK K) | (refine wpBl_mk ?_ ?_ (fun K hK => ⟨fun g => .pointer (some ⟨g, 0, none⟩), ?_⟩); (focus rfl); (focus rfl); apply Exists.intro; refine ⟨fun w' => ?_, ?_⟩; (focus (go_simp; rfl)); go_simp; refine hK _ _ _ ?_; clear hK K) | (refine wpBl_no ?_ ?_ (fun K hK => ?_); (focus rfl); (focus rfl); go_simp; refine hK _ ?_; clear hK K))
  refine wpBl_end (fun w1 b_w1 => TailW_cons (fun g0_w1 h0_w1 k0_w1 n0_w1 => TailW_nil ?_))
  obtain ⟨c_w1, f_w1, z_w1⟩ := bfacts b_w1 (by first | (simp; rfl) | rfl)
  obtain ⟨cg0_w1, fg0_w1, zg0_w1⟩ := blk_facts k0_w1
  (try simp at h0_w1)
  (try simp at n0_w1)
  clear k0_w1
  have y0_w1 : w.heap.size < w1.heap.size := (by omega)
  have y1_w1 : w.heap.size + 1 < w1.heap.size := (by omega)
  have y2_w1 : g0_w1 < w1.heap.size := (by omega)
  have k0_0_w1 : w1.cell? ⟨w.heap.size, 0, none⟩ = some (.int .i64 (a)) := (by first | exact (c_w1 _ _ (by omega)).trans (by go_simp) | go_simp)
  have l0_0_w1 : w1.frozen? ⟨w.heap.size, 0, none⟩ = false := (by first | exact (f_w1 _ _ (by omega)).trans (by go_simp) | go_simp)
  have k0_1_w1 : w1.cell? ⟨w.heap.size, 1, none⟩ = some (.int .i64 (b)) := (by first | exact (c_w1 _ _ (by omega)).trans (by go_simp) | go_simp)
  have l0_1_w1 : w1.frozen? ⟨w.heap.size, 1, none⟩ = false := (by first | exact (f_w1 _ _ (by omega)).trans (by go_simp) | go_simp)
  have k1_0_w1 : w1.cell? ⟨w.heap.size + 1, 0, none⟩ = some (.int .i64 (0)) := (by first | exact (c_w1 _ _ (by omega)).trans (by go_simp) | go_simp)
  have l1_0_w1 : w1.frozen? ⟨w.heap.size + 1, 0, none⟩ = false := (by first | exact (f_w1 _ _ (by omega)).trans (by go_simp) | go_simp)
  have k1_1_w1 : w1.cell? ⟨w.heap.size + 1, 1, none⟩ = some (.int .i64 (0)) := (by first | exact (c_w1 _ _ (by omega)).trans (by go_simp) | go_simp)
  have l1_1_w1 : w1.frozen? ⟨w.heap.size + 1, 1, none⟩ = false := (by first | exact (f_w1 _ _ (by omega)).trans (by go_simp) | go_simp)
  have k2_0_w1 : w1.cell? ⟨g0_w1, 0, none⟩ = some (.int .i64 (0)) := (by first | exact (c_w1 _ _ (by omega)).trans (by go_simp) | go_simp)
  have l2_0_w1 : w1.frozen? ⟨g0_w1, 0, none⟩ = false := (by first | exact (f_w1 _ _ (by omega)).trans (by go_simp) | go_simp)
  have k2_1_w1 : w1.cell? ⟨g0_w1, 1, none⟩ = some (.int .i64 (0)) := (by first | exact (c_w1 _ _ (by omega)).trans (by go_simp) | go_simp)
  have l2_1_w1 : w1.frozen? ⟨g0_w1, 1, none⟩ = false := (by first | exact (f_w1 _ _ (by omega)).trans (by go_simp) | go_simp)
  clear c_w1 f_w1 cg0_w1 fg0_w1
  clear HS
  go_simp
  go_wp2_with fail
  refine wp_region_bl2 4 (fun w' => w'.cell? ⟨w.heap.size, 0, none⟩ = some (.int .i64 (a)) ∧ w'.cell? ⟨w.heap.size, 1, none⟩ = some (.int .i64 (b)) ∧ w'.cell? ⟨w.heap.size + 1, 0, none⟩ = some (.int .i64 (0)) ∧ w'.cell? ⟨w.heap.size + 1, 1, none⟩ = some (.int .i64 (0)) ∧ w'.cell? ⟨g0_w1, 0, none⟩ = some (.int .i64 ((huI ⟨sL a, sH a⟩ ⟨sL b, sH b⟩).lo)) ∧ w'.cell? ⟨g0_w1, 1, none⟩ = some (.int .i64 ((huI ⟨sL a, sH a⟩ ⟨sL b, sH b⟩).hi))) (by kernel_rfl) (by kernel_rfl) (by rfl) (fun w' hw' => ?_) (fun hS => ?_)
  focus exact ⟨(hw'.cell (p := ⟨w.heap.size, 0, none⟩) (by first | omega | (simp; done) | (simp; omega))).trans (by go_simp), (hw'.cell (p := ⟨w.heap.size, 1, none⟩) (by first | omega | (simp; done) | (simp; omega))).trans (by go_simp), (hw'.cell (p := ⟨w.heap.size + 1, 0, none⟩) (by first | omega | (simp; done) | (simp; omega))).trans (by go_simp), (hw'.cell (p := ⟨w.heap.size + 1, 1, none⟩) (by first | omega | (simp; done) | (simp; omega))).trans (by go_simp), (hw'.cell (p := ⟨g0_w1, 0, none⟩) (by first | omega | (simp; done) | (simp; omega))).trans (by go_simp), (hw'.cell (p := ⟨g0_w1, 1, none⟩) (by first | omega | (simp; done) | (simp; omega))).trans (by go_simp)⟩
  have HS := Lib.hid hS; clear hS
  simp only [List.take_succ_cons, List.take_zero, List.drop_succ_cons, List.drop_zero]
  repeat (first | (refine wpBl_op ?_ ?_ (fun K hK => ?_); (focus rfl); (focus rfl); apply Exists.intro; refine ⟨fun w' hw' => ?_, ?_⟩; (focus (first | (go_simp; first | (go_at_call 157; exact sineRange1_any _ _ w.heap.size _ (HS.out w' hw').1 (by omega) (by omega) a0 a1)) | (obtain ⟨kr0, kr1, kr2, kr3, kr4, kr5⟩ := HS.out w' hw'; go_simp; rfl))); go_simp; refine hK _ ?_; clear hK K) | (refine wpBl_mk ?_ ?_ (fun K hK => ⟨fun g => .pointer (some ⟨g, 0, none⟩), ?_⟩); (focus rfl); (focus rfl); apply Exists.intro; refine ⟨fun w' => ?_, ?_⟩; (focus (go_simp; rfl)); go_simp; refine hK _ _ _ ?_; clear hK K) | (refine wpBl_no ?_ ?_ (fun K hK => ?_); (focus rfl); (focus rfl); go_simp; refine hK _ ?_; clear hK K))
  refine wpBl_end (fun w2 b_w2 => TailW_nil ?_)
  obtain ⟨c_w2, f_w2, z_w2⟩ := bfacts b_w2 (by first | (simp; rfl) | rfl)
  have y0_w2 : w.heap.size < w2.heap.size := (by omega)
  have y1_w2 : w.heap.size + 1 < w2.heap.size := (by omega)
  have y2_w2 : g0_w1 < w2.heap.size := (by omega)
  have k0_0_w2 : w2.cell? ⟨w.heap.size, 0, none⟩ = some (.int .i64 (a)) := (by first | exact (c_w2 _ _ (by omega)).trans (by go_simp) | go_simp)
  have l0_0_w2 : w2.frozen? ⟨w.heap.size, 0, none⟩ = false := (by first | exact (f_w2 _ _ (by omega)).trans (by go_simp) | go_simp)
  have k0_1_w2 : w2.cell? ⟨w.heap.size, 1, none⟩ = some (.int .i64 (b)) := (by first | exact (c_w2 _ _ (by omega)).trans (by go_simp) | go_simp)
  have l0_1_w2 : w2.frozen? ⟨w.heap.size, 1, none⟩ = false := (by first | exact (f_w2 _ _ (by omega)).trans (by go_simp) | go_simp)
  have k1_0_w2 : w2.cell? ⟨w.heap.size + 1, 0, none⟩ = some (.int .i64 (0)) := (by first | exact (c_w2 _ _ (by omega)).trans (by go_simp) | go_simp)
  have l1_0_w2 : w2.frozen? ⟨w.heap.size + 1, 0, none⟩ = false := (by first | exact (f_w2 _ _ (by omega)).trans (by go_simp) | go_simp)
  have k1_1_w2 : w2.cell? ⟨w.heap.size + 1, 1, none⟩ = some (.int .i64 (0)) := (by first | exact (c_w2 _ _ (by omega)).trans (by go_simp) | go_simp)
  have l1_1_w2 : w2.frozen? ⟨w.heap.size + 1, 1, none⟩ = false := (by first | exact (f_w2 _ _ (by omega)).trans (by go_simp) | go_simp)
  have k2_0_w2 : w2.cell? ⟨g0_w1, 0, none⟩ = some (.int .i64 ((huI ⟨sL a, sH a⟩ ⟨sL b, sH b⟩).lo)) := (by first | exact (c_w2 _ _ (by omega)).trans (by go_simp) | go_simp)
  have l2_0_w2 : w2.frozen? ⟨g0_w1, 0, none⟩ = false := (by first | exact (f_w2 _ _ (by omega)).trans (by go_simp) | go_simp)
  have k2_1_w2 : w2.cell? ⟨g0_w1, 1, none⟩ = some (.int .i64 ((huI ⟨sL a, sH a⟩ ⟨sL b, sH b⟩).hi)) := (by first | exact (c_w2 _ _ (by omega)).trans (by go_simp) | go_simp)
  have l2_1_w2 : w2.frozen? ⟨g0_w1, 1, none⟩ = false := (by first | exact (f_w2 _ _ (by omega)).trans (by go_simp) | go_simp)
  clear c_w2 f_w2
  clear HS
  go_simp
  by_cases t1 : a + plM (324000 - a) ≤ b
  · go_wp2_with (go_at_call 156; refine (hull_any _ _ _ _ _).mono ?_; rintro e w3 ⟨rfl, b_w3⟩; obtain ⟨c_w3, f_w3, z_w3⟩ := bfacts b_w3 (by first | (simp; rfl) | rfl); have y0_w3 : w.heap.size < w3.heap.size := (by omega); have y1_w3 : w.heap.size + 1 < w3.heap.size := (by omega); have y2_w3 : g0_w1 < w3.heap.size := (by omega); have k0_0_w3 : w3.cell? ⟨w.heap.size, 0, none⟩ = some (.int .i64 (a)) := (by first | exact (c_w3 _ _ (by omega)).trans (by go_simp) | go_simp); have l0_0_w3 : w3.frozen? ⟨w.heap.size, 0, none⟩ = false := (by first | exact (f_w3 _ _ (by omega)).trans (by go_simp) | go_simp); have k0_1_w3 : w3.cell? ⟨w.heap.size, 1, none⟩ = some (.int .i64 (b)) := (by first | exact (c_w3 _ _ (by omega)).trans (by go_simp) | go_simp); have l0_1_w3 : w3.frozen? ⟨w.heap.size, 1, none⟩ = false := (by first | exact (f_w3 _ _ (by omega)).trans (by go_simp) | go_simp); have k1_0_w3 : w3.cell? ⟨w.heap.size + 1, 0, none⟩ = some (.int .i64 (0)) := (by first | exact (c_w3 _ _ (by omega)).trans (by go_simp) | go_simp); have l1_0_w3 : w3.frozen? ⟨w.heap.size + 1, 0, none⟩ = false := (by first | exact (f_w3 _ _ (by omega)).trans (by go_simp) | go_simp); have k1_1_w3 : w3.cell? ⟨w.heap.size + 1, 1, none⟩ = some (.int .i64 (0)) := (by first | exact (c_w3 _ _ (by omega)).trans (by go_simp) | go_simp); have l1_1_w3 : w3.frozen? ⟨w.heap.size + 1, 1, none⟩ = false := (by first | exact (f_w3 _ _ (by omega)).trans (by go_simp) | go_simp); have k2_0_w3 : w3.cell? ⟨g0_w1, 0, none⟩ = some (.int .i64 ((huI ⟨sL a, sH a⟩ ⟨sL b, sH b⟩).lo)) := (by first | exact (c_w3 _ _ (by omega)).trans (by go_simp) | go_simp); have l2_0_w3 : w3.frozen? ⟨g0_w1, 0, none⟩ = false := (by first | exact (f_w3 _ _ (by omega)).trans (by go_simp) | go_simp); have k2_1_w3 : w3.cell? ⟨g0_w1, 1, none⟩ = some (.int .i64 ((huI ⟨sL a, sH a⟩ ⟨sL b, sH b⟩).hi)) := (by first | exact (c_w3 _ _ (by omega)).trans (by go_simp) | go_simp); have l2_1_w3 : w3.frozen? ⟨g0_w1, 1, none⟩ = false := (by first | exact (f_w3 _ _ (by omega)).trans (by go_simp) | go_simp); clear c_w3 f_w3)
    refine wp_region_bl2 4 (fun w' => w'.cell? ⟨w.heap.size, 0, none⟩ = some (.int .i64 (a)) ∧ w'.cell? ⟨w.heap.size, 1, none⟩ = some (.int .i64 (b)) ∧ w'.cell? ⟨w.heap.size + 1, 0, none⟩ = some (.int .i64 (0)) ∧ w'.cell? ⟨w.heap.size + 1, 1, none⟩ = some (.int .i64 (0)) ∧ w'.cell? ⟨g0_w1, 0, none⟩ = some (.int .i64 ((huI (huI ⟨sL a, sH a⟩ ⟨sL b, sH b⟩) ⟨1000000, 1000000⟩).lo)) ∧ w'.cell? ⟨g0_w1, 1, none⟩ = some (.int .i64 ((huI (huI ⟨sL a, sH a⟩ ⟨sL b, sH b⟩) ⟨1000000, 1000000⟩).hi))) (by kernel_rfl) (by kernel_rfl) (by rfl) (fun w' hw' => ?_) (fun hS => ?_)
    focus exact ⟨(hw'.cell (p := ⟨w.heap.size, 0, none⟩) (by first | omega | (simp; done) | (simp; omega))).trans (by go_simp), (hw'.cell (p := ⟨w.heap.size, 1, none⟩) (by first | omega | (simp; done) | (simp; omega))).trans (by go_simp), (hw'.cell (p := ⟨w.heap.size + 1, 0, none⟩) (by first | omega | (simp; done) | (simp; omega))).trans (by go_simp), (hw'.cell (p := ⟨w.heap.size + 1, 1, none⟩) (by first | omega | (simp; done) | (simp; omega))).trans (by go_simp), (hw'.cell (p := ⟨g0_w1, 0, none⟩) (by first | omega | (simp; done) | (simp; omega))).trans (by go_simp), (hw'.cell (p := ⟨g0_w1, 1, none⟩) (by first | omega | (simp; done) | (simp; omega))).trans (by go_simp)⟩
    have HS := Lib.hid hS; clear hS
    simp only [List.take_succ_cons, List.take_zero, List.drop_succ_cons, List.drop_zero]
    repeat (first | (refine wpBl_op ?_ ?_ (fun K hK => ?_); (focus rfl); (focus rfl); apply Exists.intro; refine ⟨fun w' hw' => ?_, ?_⟩; (focus (first | (go_simp; first | (go_at_call 157; exact sineRange1_any _ _ w.heap.size _ (HS.out w' hw').1 (by omega) (by omega) a0 a1)) | (obtain ⟨kr0, kr1, kr2, kr3, kr4, kr5⟩ := HS.out w' hw'; go_simp; rfl))); go_simp; refine hK _ ?_; clear hK K) | (refine wpBl_mk ?_ ?_ (fun K hK => ⟨fun g => .pointer (some ⟨g, 0, none⟩), ?_⟩); (focus rfl); (focus rfl); apply Exists.intro; refine ⟨fun w' => ?_, ?_⟩; (focus (go_simp; rfl)); go_simp; refine hK _ _ _ ?_; clear hK K) | (refine wpBl_no ?_ ?_ (fun K hK => ?_); (focus rfl); (focus rfl); go_simp; refine hK _ ?_; clear hK K))
    refine wpBl_end (fun w4 b_w4 => TailW_nil ?_)
    obtain ⟨c_w4, f_w4, z_w4⟩ := bfacts b_w4 (by first | (simp; rfl) | rfl)
    have y0_w4 : w.heap.size < w4.heap.size := (by omega)
    have y1_w4 : w.heap.size + 1 < w4.heap.size := (by omega)
    have y2_w4 : g0_w1 < w4.heap.size := (by omega)
    have k0_0_w4 : w4.cell? ⟨w.heap.size, 0, none⟩ = some (.int .i64 (a)) := (by first | exact (c_w4 _ _ (by omega)).trans (by go_simp) | go_simp)
    have l0_0_w4 : w4.frozen? ⟨w.heap.size, 0, none⟩ = false := (by first | exact (f_w4 _ _ (by omega)).trans (by go_simp) | go_simp)
    have k0_1_w4 : w4.cell? ⟨w.heap.size, 1, none⟩ = some (.int .i64 (b)) := (by first | exact (c_w4 _ _ (by omega)).trans (by go_simp) | go_simp)
    have l0_1_w4 : w4.frozen? ⟨w.heap.size, 1, none⟩ = false := (by first | exact (f_w4 _ _ (by omega)).trans (by go_simp) | go_simp)
    have k1_0_w4 : w4.cell? ⟨w.heap.size + 1, 0, none⟩ = some (.int .i64 (0)) := (by first | exact (c_w4 _ _ (by omega)).trans (by go_simp) | go_simp)
    have l1_0_w4 : w4.frozen? ⟨w.heap.size + 1, 0, none⟩ = false := (by first | exact (f_w4 _ _ (by omega)).trans (by go_simp) | go_simp)
    have k1_1_w4 : w4.cell? ⟨w.heap.size + 1, 1, none⟩ = some (.int .i64 (0)) := (by first | exact (c_w4 _ _ (by omega)).trans (by go_simp) | go_simp)
    have l1_1_w4 : w4.frozen? ⟨w.heap.size + 1, 1, none⟩ = false := (by first | exact (f_w4 _ _ (by omega)).trans (by go_simp) | go_simp)
    have k2_0_w4 : w4.cell? ⟨g0_w1, 0, none⟩ = some (.int .i64 ((huI (huI ⟨sL a, sH a⟩ ⟨sL b, sH b⟩) ⟨1000000, 1000000⟩).lo)) := (by first | exact (c_w4 _ _ (by omega)).trans (by go_simp) | go_simp)
    have l2_0_w4 : w4.frozen? ⟨g0_w1, 0, none⟩ = false := (by first | exact (f_w4 _ _ (by omega)).trans (by go_simp) | go_simp)
    have k2_1_w4 : w4.cell? ⟨g0_w1, 1, none⟩ = some (.int .i64 ((huI (huI ⟨sL a, sH a⟩ ⟨sL b, sH b⟩) ⟨1000000, 1000000⟩).hi)) := (by first | exact (c_w4 _ _ (by omega)).trans (by go_simp) | go_simp)
    have l2_1_w4 : w4.frozen? ⟨g0_w1, 1, none⟩ = false := (by first | exact (f_w4 _ _ (by omega)).trans (by go_simp) | go_simp)
    clear c_w4 f_w4
    clear HS
    go_simp
    by_cases t2 : a + plM (-324000 - a) ≤ b
    all_goals
      go_wp2_with (go_at_call 156; refine (hull_any _ _ _ _ _).mono ?_; rintro e w5 ⟨rfl, b_w5⟩; obtain ⟨c_w5, f_w5, z_w5⟩ := bfacts b_w5 (by first | (simp; rfl) | rfl); have y0_w5 : w.heap.size < w5.heap.size := (by omega); have y1_w5 : w.heap.size + 1 < w5.heap.size := (by omega); have y2_w5 : g0_w1 < w5.heap.size := (by omega); have k0_0_w5 : w5.cell? ⟨w.heap.size, 0, none⟩ = some (.int .i64 (a)) := (by first | exact (c_w5 _ _ (by omega)).trans (by go_simp) | go_simp); have l0_0_w5 : w5.frozen? ⟨w.heap.size, 0, none⟩ = false := (by first | exact (f_w5 _ _ (by omega)).trans (by go_simp) | go_simp); have k0_1_w5 : w5.cell? ⟨w.heap.size, 1, none⟩ = some (.int .i64 (b)) := (by first | exact (c_w5 _ _ (by omega)).trans (by go_simp) | go_simp); have l0_1_w5 : w5.frozen? ⟨w.heap.size, 1, none⟩ = false := (by first | exact (f_w5 _ _ (by omega)).trans (by go_simp) | go_simp); have k1_0_w5 : w5.cell? ⟨w.heap.size + 1, 0, none⟩ = some (.int .i64 (0)) := (by first | exact (c_w5 _ _ (by omega)).trans (by go_simp) | go_simp); have l1_0_w5 : w5.frozen? ⟨w.heap.size + 1, 0, none⟩ = false := (by first | exact (f_w5 _ _ (by omega)).trans (by go_simp) | go_simp); have k1_1_w5 : w5.cell? ⟨w.heap.size + 1, 1, none⟩ = some (.int .i64 (0)) := (by first | exact (c_w5 _ _ (by omega)).trans (by go_simp) | go_simp); have l1_1_w5 : w5.frozen? ⟨w.heap.size + 1, 1, none⟩ = false := (by first | exact (f_w5 _ _ (by omega)).trans (by go_simp) | go_simp); have k2_0_w5 : w5.cell? ⟨g0_w1, 0, none⟩ = some (.int .i64 ((huI (huI ⟨sL a, sH a⟩ ⟨sL b, sH b⟩) ⟨1000000, 1000000⟩).lo)) := (by first | exact (c_w5 _ _ (by omega)).trans (by go_simp) | go_simp); have l2_0_w5 : w5.frozen? ⟨g0_w1, 0, none⟩ = false := (by first | exact (f_w5 _ _ (by omega)).trans (by go_simp) | go_simp); have k2_1_w5 : w5.cell? ⟨g0_w1, 1, none⟩ = some (.int .i64 ((huI (huI ⟨sL a, sH a⟩ ⟨sL b, sH b⟩) ⟨1000000, 1000000⟩).hi)) := (by first | exact (c_w5 _ _ (by omega)).trans (by go_simp) | go_simp); have l2_1_w5 : w5.frozen? ⟨g0_w1, 1, none⟩ = false := (by first | exact (f_w5 _ _ (by omega)).trans (by go_simp) | go_simp); clear c_w5 f_w5)
      exact bodyPost_ret (v := (.agg #[.int .i64 ((srI a b).lo), .int .i64 ((srI a b).hi)])) (by simp [results, Tryz.results113, go_sem, *]; constructor <;> (unfold srI; (repeat' split) <;> first | rfl | omega)) rfl ⟨rfl, by (repeat' (first | with_reducible exact Below.refl _ _ | with_reducible assumption | with_reducible refine Below.setCell ?_ ?_ _ | with_reducible refine Below.drew ?_ | with_reducible refine below_drewN ?_ _ | with_reducible refine Below.alloc ?_ ?_ _ | with_reducible refine below_step (by assumption) ?_ ?_ | omega | exact Below.size (by assumption) | (simp; done) | (simp; omega)))⟩
  · go_wp2_with fail
    refine wp_region_bl2 4 (fun w' => w'.cell? ⟨w.heap.size, 0, none⟩ = some (.int .i64 (a)) ∧ w'.cell? ⟨w.heap.size, 1, none⟩ = some (.int .i64 (b)) ∧ w'.cell? ⟨w.heap.size + 1, 0, none⟩ = some (.int .i64 (0)) ∧ w'.cell? ⟨w.heap.size + 1, 1, none⟩ = some (.int .i64 (0)) ∧ w'.cell? ⟨g0_w1, 0, none⟩ = some (.int .i64 ((huI ⟨sL a, sH a⟩ ⟨sL b, sH b⟩).lo)) ∧ w'.cell? ⟨g0_w1, 1, none⟩ = some (.int .i64 ((huI ⟨sL a, sH a⟩ ⟨sL b, sH b⟩).hi))) (by kernel_rfl) (by kernel_rfl) (by rfl) (fun w' hw' => ?_) (fun hS => ?_)
    focus exact ⟨(hw'.cell (p := ⟨w.heap.size, 0, none⟩) (by first | omega | (simp; done) | (simp; omega))).trans (by go_simp), (hw'.cell (p := ⟨w.heap.size, 1, none⟩) (by first | omega | (simp; done) | (simp; omega))).trans (by go_simp), (hw'.cell (p := ⟨w.heap.size + 1, 0, none⟩) (by first | omega | (simp; done) | (simp; omega))).trans (by go_simp), (hw'.cell (p := ⟨w.heap.size + 1, 1, none⟩) (by first | omega | (simp; done) | (simp; omega))).trans (by go_simp), (hw'.cell (p := ⟨g0_w1, 0, none⟩) (by first | omega | (simp; done) | (simp; omega))).trans (by go_simp), (hw'.cell (p := ⟨g0_w1, 1, none⟩) (by first | omega | (simp; done) | (simp; omega))).trans (by go_simp)⟩
    have HS := Lib.hid hS; clear hS
    simp only [List.take_succ_cons, List.take_zero, List.drop_succ_cons, List.drop_zero]
    repeat (first | (refine wpBl_op ?_ ?_ (fun K hK => ?_); (focus rfl); (focus rfl); apply Exists.intro; refine ⟨fun w' hw' => ?_, ?_⟩; (focus (first | (go_simp; first | (go_at_call 157; exact sineRange1_any _ _ w.heap.size _ (HS.out w' hw').1 (by omega) (by omega) a0 a1)) | (obtain ⟨kr0, kr1, kr2, kr3, kr4, kr5⟩ := HS.out w' hw'; go_simp; rfl))); go_simp; refine hK _ ?_; clear hK K) | (refine wpBl_mk ?_ ?_ (fun K hK => ⟨fun g => .pointer (some ⟨g, 0, none⟩), ?_⟩); (focus rfl); (focus rfl); apply Exists.intro; refine ⟨fun w' => ?_, ?_⟩; (focus (go_simp; rfl)); go_simp; refine hK _ _ _ ?_; clear hK K) | (refine wpBl_no ?_ ?_ (fun K hK => ?_); (focus rfl); (focus rfl); go_simp; refine hK _ ?_; clear hK K))
    refine wpBl_end (fun w4 b_w4 => TailW_nil ?_)
    obtain ⟨c_w4, f_w4, z_w4⟩ := bfacts b_w4 (by first | (simp; rfl) | rfl)
    have y0_w4 : w.heap.size < w4.heap.size := (by omega)
    have y1_w4 : w.heap.size + 1 < w4.heap.size := (by omega)
    have y2_w4 : g0_w1 < w4.heap.size := (by omega)
    have k0_0_w4 : w4.cell? ⟨w.heap.size, 0, none⟩ = some (.int .i64 (a)) := (by first | exact (c_w4 _ _ (by omega)).trans (by go_simp) | go_simp)
    have l0_0_w4 : w4.frozen? ⟨w.heap.size, 0, none⟩ = false := (by first | exact (f_w4 _ _ (by omega)).trans (by go_simp) | go_simp)
    have k0_1_w4 : w4.cell? ⟨w.heap.size, 1, none⟩ = some (.int .i64 (b)) := (by first | exact (c_w4 _ _ (by omega)).trans (by go_simp) | go_simp)
    have l0_1_w4 : w4.frozen? ⟨w.heap.size, 1, none⟩ = false := (by first | exact (f_w4 _ _ (by omega)).trans (by go_simp) | go_simp)
    have k1_0_w4 : w4.cell? ⟨w.heap.size + 1, 0, none⟩ = some (.int .i64 (0)) := (by first | exact (c_w4 _ _ (by omega)).trans (by go_simp) | go_simp)
    have l1_0_w4 : w4.frozen? ⟨w.heap.size + 1, 0, none⟩ = false := (by first | exact (f_w4 _ _ (by omega)).trans (by go_simp) | go_simp)
    have k1_1_w4 : w4.cell? ⟨w.heap.size + 1, 1, none⟩ = some (.int .i64 (0)) := (by first | exact (c_w4 _ _ (by omega)).trans (by go_simp) | go_simp)
    have l1_1_w4 : w4.frozen? ⟨w.heap.size + 1, 1, none⟩ = false := (by first | exact (f_w4 _ _ (by omega)).trans (by go_simp) | go_simp)
    have k2_0_w4 : w4.cell? ⟨g0_w1, 0, none⟩ = some (.int .i64 ((huI ⟨sL a, sH a⟩ ⟨sL b, sH b⟩).lo)) := (by first | exact (c_w4 _ _ (by omega)).trans (by go_simp) | go_simp)
    have l2_0_w4 : w4.frozen? ⟨g0_w1, 0, none⟩ = false := (by first | exact (f_w4 _ _ (by omega)).trans (by go_simp) | go_simp)
    have k2_1_w4 : w4.cell? ⟨g0_w1, 1, none⟩ = some (.int .i64 ((huI ⟨sL a, sH a⟩ ⟨sL b, sH b⟩).hi)) := (by first | exact (c_w4 _ _ (by omega)).trans (by go_simp) | go_simp)
    have l2_1_w4 : w4.frozen? ⟨g0_w1, 1, none⟩ = false := (by first | exact (f_w4 _ _ (by omega)).trans (by go_simp) | go_simp)
    clear c_w4 f_w4
    clear HS
    go_simp
    by_cases t2 : a + plM (-324000 - a) ≤ b
    all_goals
      go_wp2_with (go_at_call 156; refine (hull_any _ _ _ _ _).mono ?_; rintro e w5 ⟨rfl, b_w5⟩; obtain ⟨c_w5, f_w5, z_w5⟩ := bfacts b_w5 (by first | (simp; rfl) | rfl); have y0_w5 : w.heap.size < w5.heap.size := (by omega); have y1_w5 : w.heap.size + 1 < w5.heap.size := (by omega); have y2_w5 : g0_w1 < w5.heap.size := (by omega); have k0_0_w5 : w5.cell? ⟨w.heap.size, 0, none⟩ = some (.int .i64 (a)) := (by first | exact (c_w5 _ _ (by omega)).trans (by go_simp) | go_simp); have l0_0_w5 : w5.frozen? ⟨w.heap.size, 0, none⟩ = false := (by first | exact (f_w5 _ _ (by omega)).trans (by go_simp) | go_simp); have k0_1_w5 : w5.cell? ⟨w.heap.size, 1, none⟩ = some (.int .i64 (b)) := (by first | exact (c_w5 _ _ (by omega)).trans (by go_simp) | go_simp); have l0_1_w5 : w5.frozen? ⟨w.heap.size, 1, none⟩ = false := (by first | exact (f_w5 _ _ (by omega)).trans (by go_simp) | go_simp); have k1_0_w5 : w5.cell? ⟨w.heap.size + 1, 0, none⟩ = some (.int .i64 (0)) := (by first | exact (c_w5 _ _ (by omega)).trans (by go_simp) | go_simp); have l1_0_w5 : w5.frozen? ⟨w.heap.size + 1, 0, none⟩ = false := (by first | exact (f_w5 _ _ (by omega)).trans (by go_simp) | go_simp); have k1_1_w5 : w5.cell? ⟨w.heap.size + 1, 1, none⟩ = some (.int .i64 (0)) := (by first | exact (c_w5 _ _ (by omega)).trans (by go_simp) | go_simp); have l1_1_w5 : w5.frozen? ⟨w.heap.size + 1, 1, none⟩ = false := (by first | exact (f_w5 _ _ (by omega)).trans (by go_simp) | go_simp); have k2_0_w5 : w5.cell? ⟨g0_w1, 0, none⟩ = some (.int .i64 ((huI ⟨sL a, sH a⟩ ⟨sL b, sH b⟩).lo)) := (by first | exact (c_w5 _ _ (by omega)).trans (by go_simp) | go_simp); have l2_0_w5 : w5.frozen? ⟨g0_w1, 0, none⟩ = false := (by first | exact (f_w5 _ _ (by omega)).trans (by go_simp) | go_simp); have k2_1_w5 : w5.cell? ⟨g0_w1, 1, none⟩ = some (.int .i64 ((huI ⟨sL a, sH a⟩ ⟨sL b, sH b⟩).hi)) := (by first | exact (c_w5 _ _ (by omega)).trans (by go_simp) | go_simp); have l2_1_w5 : w5.frozen? ⟨g0_w1, 1, none⟩ = false := (by first | exact (f_w5 _ _ (by omega)).trans (by go_simp) | go_simp); clear c_w5 f_w5)
      exact bodyPost_ret (v := (.agg #[.int .i64 ((srI a b).lo), .int .i64 ((srI a b).hi)])) (by simp [results, Tryz.results113, go_sem, *]; constructor <;> (unfold srI; (repeat' split) <;> first | rfl | omega)) rfl ⟨rfl, by (repeat' (first | with_reducible exact Below.refl _ _ | with_reducible assumption | with_reducible refine Below.setCell ?_ ?_ _ | with_reducible refine Below.drew ?_ | with_reducible refine below_drewN ?_ _ | with_reducible refine Below.alloc ?_ ?_ _ | with_reducible refine below_step (by assumption) ?_ ?_ | omega | exact Below.size (by assumption) | (simp; done) | (simp; omega)))⟩


end Go.Proofs.YteooegliepbcnaaGreat
