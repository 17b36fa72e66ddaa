/- What the reference's functions on products of intervals, the calendar and the sun return. -/
import Derived.Test.YteooegliepbcnaaGreatS2
namespace Go.Proofs.YteooegliepbcnaaGreat
set_option linter.unusedVariables false
set_option linter.unusedSimpArgs false
set_option maxRecDepth 10000
open Go.RowKit


set_option maxHeartbeats 400000 in
theorem sHull_any (a b c d : Int) (w : World) :
    Calls Tryz.prog 161 #[(.agg #[.int .i64 (a), .int .i64 (b)]), (.agg #[.int .i64 (c), .int .i64 (d)])] w fun e w' => e = .returned (.agg #[.int .i64 ((huI ⟨a, b⟩ ⟨c, d⟩).lo), .int .i64 ((huI ⟨a, b⟩ ⟨c, d⟩).hi)]) ∧ Below w.heap.size w w' := by
  go_enter Tryz.func161, Tryz.ntmps161
  go_wp2
  exact bodyPost_ret (v := (.agg #[.int .i64 ((huI ⟨a, b⟩ ⟨c, d⟩).lo), .int .i64 ((huI ⟨a, b⟩ ⟨c, d⟩).hi)])) (by simp [results, Tryz.results161, go_sem, huI]) rfl ⟨rfl, by (repeat' (first | with_reducible exact Below.refl _ _ | with_reducible assumption | with_reducible refine Below.setCell ?_ ?_ _ | with_reducible refine Below.drew ?_ | with_reducible refine below_drewN ?_ _ | with_reducible refine Below.alloc ?_ ?_ _ | with_reducible refine below_step (by assumption) ?_ ?_ | omega | exact Below.size (by assumption) | (simp; done) | (simp; omega)))⟩

set_option maxHeartbeats 400000 in
theorem sAdd_any (a b c d : Int) (w : World) (a0 : -4000000000000 ≤ a) (a1 : a ≤ 4000000000000) (b0 : -4000000000000 ≤ b) (b1 : b ≤ 4000000000000) (c0 : -4000000000000 ≤ c) (c1 : c ≤ 4000000000000) (d0 : -4000000000000 ≤ d) (d1 : d ≤ 4000000000000) :
    Calls Tryz.prog 127 #[(.agg #[.int .i64 (a), .int .i64 (b)]), (.agg #[.int .i64 (c), .int .i64 (d)])] w fun e w' => e = .returned (.agg #[.int .i64 ((plI ⟨a, b⟩ ⟨c, d⟩).lo), .int .i64 ((plI ⟨a, b⟩ ⟨c, d⟩).hi)]) ∧ Below w.heap.size w w' := by
  go_enter Tryz.func127, Tryz.ntmps127
  go_wp2
  exact bodyPost_ret (v := (.agg #[.int .i64 ((plI ⟨a, b⟩ ⟨c, d⟩).lo), .int .i64 ((plI ⟨a, b⟩ ⟨c, d⟩).hi)])) (by simp [results, Tryz.results127, go_sem, plI]) rfl ⟨rfl, by (repeat' (first | with_reducible exact Below.refl _ _ | with_reducible assumption | with_reducible refine Below.setCell ?_ ?_ _ | with_reducible refine Below.drew ?_ | with_reducible refine below_drewN ?_ _ | with_reducible refine Below.alloc ?_ ?_ _ | with_reducible refine below_step (by assumption) ?_ ?_ | omega | exact Below.size (by assumption) | (simp; done) | (simp; omega)))⟩

set_option maxHeartbeats 400000 in
theorem sSub_any (a b c d : Int) (w : World) (a0 : -4000000000000 ≤ a) (a1 : a ≤ 4000000000000) (b0 : -4000000000000 ≤ b) (b1 : b ≤ 4000000000000) (c0 : -4000000000000 ≤ c) (c1 : c ≤ 4000000000000) (d0 : -4000000000000 ≤ d) (d1 : d ≤ 4000000000000) :
    Calls Tryz.prog 126 #[(.agg #[.int .i64 (a), .int .i64 (b)]), (.agg #[.int .i64 (c), .int .i64 (d)])] w fun e w' => e = .returned (.agg #[.int .i64 ((miI ⟨a, b⟩ ⟨c, d⟩).lo), .int .i64 ((miI ⟨a, b⟩ ⟨c, d⟩).hi)]) ∧ Below w.heap.size w w' := by
  go_enter Tryz.func126, Tryz.ntmps126
  go_wp2
  exact bodyPost_ret (v := (.agg #[.int .i64 ((miI ⟨a, b⟩ ⟨c, d⟩).lo), .int .i64 ((miI ⟨a, b⟩ ⟨c, d⟩).hi)])) (by simp [results, Tryz.results126, go_sem, miI]) rfl ⟨rfl, by (repeat' (first | with_reducible exact Below.refl _ _ | with_reducible assumption | with_reducible refine Below.setCell ?_ ?_ _ | with_reducible refine Below.drew ?_ | with_reducible refine below_drewN ?_ _ | with_reducible refine Below.alloc ?_ ?_ _ | with_reducible refine below_step (by assumption) ?_ ?_ | omega | exact Below.size (by assumption) | (simp; done) | (simp; omega)))⟩

set_option maxHeartbeats 1000000 in
theorem sMul_any (a b c d : Int) (w : World) (a0 : -1000000000 ≤ a) (a1 : a ≤ 1000000000) (b0 : -1000000000 ≤ b) (b1 : b ≤ 1000000000) (c0 : -1000000000 ≤ c) (c1 : c ≤ 1000000000) (d0 : -1000000000 ≤ d) (d1 : d ≤ 1000000000) :
    Calls Tryz.prog 125 #[(.agg #[.int .i64 (a), .int .i64 (b)]), (.agg #[.int .i64 (c), .int .i64 (d)])] w fun e w' => e = .returned (.agg #[.int .i64 ((muI ⟨a, b⟩ ⟨c, d⟩).lo), .int .i64 ((muI ⟨a, b⟩ ⟨c, d⟩).hi)]) ∧ Below w.heap.size w w' := by
  have p := mul_abs a0 a1 c0 c1
  have q := mul_abs a0 a1 d0 d1
  have r := mul_abs b0 b1 c0 c1
  have s := mul_abs b0 b1 d0 d1
  have m := mn4_bd p.1 p.2 q.1 q.2 r.1 r.2 s.1 s.2
  have M := mx4_bd p.1 p.2 q.1 q.2 r.1 r.2 s.1 s.2
  go_enter Tryz.func125, Tryz.ntmps125
  go_wp2
  go_quiet (fail)
  go_wp2_with (first | (go_at_call 100; refine (sFloor_pos _ _ _ (by omega) (by omega) (by omega) (by omega)).mono ?_; rintro e w' ⟨rfl, rfl⟩) | (go_at_call 145; refine (sCeil_pos _ _ _ (by omega) (by omega) (by omega) (by omega)).mono ?_; rintro e w' ⟨rfl, rfl⟩))
  exact bodyPost_ret (v := (.agg #[.int .i64 ((muI ⟨a, b⟩ ⟨c, d⟩).lo), .int .i64 ((muI ⟨a, b⟩ ⟨c, d⟩).hi)])) (by simp [results, Tryz.results125, go_sem, muI]) rfl ⟨rfl, by (repeat' (first | with_reducible exact Below.refl _ _ | with_reducible assumption | with_reducible refine Below.setCell ?_ ?_ _ | with_reducible refine Below.drew ?_ | with_reducible refine below_drewN ?_ _ | with_reducible refine Below.alloc ?_ ?_ _ | with_reducible refine below_step (by assumption) ?_ ?_ | omega | exact Below.size (by assumption) | (simp; done) | (simp; omega)))⟩

set_option maxHeartbeats 400000 in
theorem sNearest_pos (a b : Int) (w : World) (hb : 0 < b) (h1 : -2000000000000000000 ≤ a) (h2 : a ≤ 2000000000000000000) (h3 : b ≤ 100000000000000000) :
    Calls Tryz.prog 170 #[.int .i64 a, .int .i64 b] w fun e w' => e = .returned (.int .i64 (neM a b)) ∧ w = w' := by
  go_enter Tryz.func170, Tryz.ntmps170
  go_wp2_with (go_at_call 100; refine (sFloor_pos _ _ _ (by omega) (by omega) (by omega) (by omega)).mono ?_; rintro e w' ⟨rfl, rfl⟩)
  go_ret
  exact ⟨rfl, rfl⟩

set_option maxHeartbeats 400000 in
theorem sYear_any (y : Int) (w : World) (h1 : 0 ≤ y) (h2 : y ≤ 10000) :
    Calls Tryz.prog 104 #[.int .i64 y] w fun e w' => e = .returned (.int .i64 (365 * (y - 2000) + -(-(y - 2000) / 4))) ∧ w = w' := by
  go_enter Tryz.func104, Tryz.ntmps104
  go_wp2_with (go_at_call 145; refine (sCeil_pos _ _ _ (by omega) (by omega) (by omega) (by omega)).mono ?_; rintro e w' ⟨rfl, rfl⟩)
  go_ret
  exact ⟨rfl, rfl⟩

set_option maxHeartbeats 400000 in
theorem sHas_any (n : Int) (w : World) :
    Calls Tryz.prog 77 #[.int .i64 n] w fun e w' => e = .returned (.bool (dayB n)) ∧ w = w' := by
  go_enter Tryz.func77, Tryz.ntmps77
  go_wp2_with (first | (go_at_call 104; refine (sYear_any _ _ (by omega) (by omega)).mono ?_; rintro e w' ⟨rfl, rfl⟩) | (go_at_call 54; refine (sIn_any _ _ _ _).mono ?_; rintro e w' ⟨rfl, rfl⟩))
  go_ret
  exact ⟨rfl, rfl⟩

set_option maxHeartbeats 400000 in
theorem sMean_any (n : Int) (w : World) (h1 : -1000000 ≤ n) (h2 : n ≤ 1000000) :
    Calls Tryz.prog 169 #[.int .i64 n] w fun e w' => e = .returned (.int .i64 (mlM n)) ∧ w = w' := by
  go_enter Tryz.func169, Tryz.ntmps169
  go_wp2_with (first | (go_at_call 100; refine (sFloor_pos _ _ _ (by omega) (by omega) (by omega) (by omega)).mono ?_; rintro e w' ⟨rfl, rfl⟩) | (go_at_call 162; refine (sPlain_any _ _ (by omega) (by omega)).mono ?_; rintro e w' ⟨rfl, rfl⟩))
  go_ret
  exact ⟨rfl, rfl⟩

set_option maxHeartbeats 400000 in
theorem sLongitude_any (n : Int) (w : World) (h1 : -1000000 ≤ n) (h2 : n ≤ 1000000) :
    Calls Tryz.prog 129 #[.int .i64 n] w fun e w' => e = .returned (.int .i64 (slM n)) ∧ w = w' := by
  have m0 := mlM_bd n
  have an : ∃ x, x = anM n ∧ 0 ≤ x ∧ x < 1296000 := ⟨_, rfl, anM_bd n⟩
  obtain ⟨x, hx, x0, x1⟩ := an
  have HX := Lib.hid hx; clear hx
  have n1 := nsM_bd x
  have n2 := nsM_bd (2 * x)
  have hne := neM_bd (6894 * nsM x + 72 * nsM (2 * x)) 1000000000 10000000000000 (by omega) (by omega) (by omega)
  go_enter Tryz.func129, Tryz.ntmps129
  go_wp2_with (first | (go_at_call 100; refine (sFloor_pos _ _ _ (by omega) (by omega) (by omega) (by omega)).mono ?_; rintro e w' ⟨rfl, rfl⟩) | fail)
  refine (sPlain_any _ _ (by omega) (by omega)).mono ?_
  rintro e w1 ⟨rfl, rfl⟩
  rw [show plM (1287101 + n * 354816108 / 100000) = x from HX.out.symm]
  go_wp2_with (first | (go_at_call 169; refine (sMean_any _ _ h1 h2).mono ?_; rintro e w' ⟨rfl, rfl⟩) | (go_at_call 164; refine (sSine_any _ _ (by omega) (by omega)).mono ?_; rintro e w' ⟨rfl, rfl⟩) | (go_at_call 170; refine (sNearest_pos _ _ _ (by omega) (by omega) (by omega) (by omega)).mono ?_; rintro e w' ⟨rfl, rfl⟩) | (go_at_call 162; refine (sPlain_any _ _ (by omega) (by omega)).mono ?_; rintro e w' ⟨rfl, rfl⟩))
  go_ret
  exact ⟨ret_int (by rw [HX.out]; rfl), rfl⟩

set_option maxHeartbeats 1000000 in
theorem sDeclination_any (n : Int) (w : World) (h1 : -1000000 ≤ n) (h2 : n ≤ 1000000) :
    Calls Tryz.prog 89 #[.int .i64 n] w fun e w' => e = .returned (.agg #[.int .i64 ((deI n).lo), .int .i64 ((deI n).hi)]) ∧ Below w.heap.size w w' := by
  have b1 := s_bd 84380
  have b2 := s_bd (slM n)
  have b3 := slM_bd n
  have b4 := asI_bd (muI ⟨sL 84380, sH 84380⟩ ⟨sL (slM n), sH (slM n)⟩).lo (muI ⟨sL 84380, sH 84380⟩ ⟨sL (slM n), sH (slM n)⟩).hi
  go_enter Tryz.func89, Tryz.ntmps89
  go_wp2_with (first | (go_at_call 122; refine (sSin_any _ _ (by omega) (by omega)).mono ?_; rintro e w1 ⟨rfl, b_w1⟩; obtain ⟨c_w1, f_w1, z_w1⟩ := bfacts b_w1 (by first | (simp; rfl) | rfl); have y0_w1 : w.heap.size < w1.heap.size := (by omega); have k0_0_w1 : w1.cell? ⟨w.heap.size, 0, none⟩ = some (.int .i64 (0)) := (by first | exact (c_w1 _ _ (by omega)).trans (by go_simp) | go_simp); have l0_0_w1 : w1.frozen? ⟨w.heap.size, 0, none⟩ = false := (by first | exact (f_w1 _ _ (by omega)).trans (by go_simp) | go_simp); have k0_1_w1 : w1.cell? ⟨w.heap.size, 1, none⟩ = some (.int .i64 (0)) := (by first | exact (c_w1 _ _ (by omega)).trans (by go_simp) | go_simp); have l0_1_w1 : w1.frozen? ⟨w.heap.size, 1, none⟩ = false := (by first | exact (f_w1 _ _ (by omega)).trans (by go_simp) | go_simp); clear c_w1 f_w1) | (go_at_call 129; refine (sLongitude_any _ _ h1 h2).mono ?_; rintro e w' ⟨rfl, rfl⟩) | (go_at_call 125; refine (sMul_any _ _ _ _ _ (by omega) (by omega) (by omega) (by omega) (by omega) (by omega) (by omega) (by omega)).mono ?_; rintro e w3 ⟨rfl, b_w3⟩; obtain ⟨c_w3, f_w3, z_w3⟩ := bfacts b_w3 (by first | (simp; rfl) | rfl); have y0_w3 : w.heap.size < w3.heap.size := (by omega); have k0_0_w3 : w3.cell? ⟨w.heap.size, 0, none⟩ = some (.int .i64 (0)) := (by first | exact (c_w3 _ _ (by omega)).trans (by go_simp) | go_simp); have l0_0_w3 : w3.frozen? ⟨w.heap.size, 0, none⟩ = false := (by first | exact (f_w3 _ _ (by omega)).trans (by go_simp) | go_simp); have k0_1_w3 : w3.cell? ⟨w.heap.size, 1, none⟩ = some (.int .i64 (0)) := (by first | exact (c_w3 _ _ (by omega)).trans (by go_simp) | go_simp); have l0_1_w3 : w3.frozen? ⟨w.heap.size, 1, none⟩ = false := (by first | exact (f_w3 _ _ (by omega)).trans (by go_simp) | go_simp); clear c_w3 f_w3) | (go_at_call 128; refine (sArcSineRange_any _ _ _).mono ?_; rintro e w4 ⟨rfl, b_w4⟩; obtain ⟨c_w4, f_w4, z_w4⟩ := bfacts b_w4 (by first | (simp; rfl) | rfl); have y0_w4 : w.heap.size < w4.heap.size := (by omega); have k0_0_w4 : w4.cell? ⟨w.heap.size, 0, none⟩ = some (.int .i64 (0)) := (by first | exact (c_w4 _ _ (by omega)).trans (by go_simp) | go_simp); have l0_0_w4 : w4.frozen? ⟨w.heap.size, 0, none⟩ = false := (by first | exact (f_w4 _ _ (by omega)).trans (by go_simp) | go_simp); have k0_1_w4 : w4.cell? ⟨w.heap.size, 1, none⟩ = some (.int .i64 (0)) := (by first | exact (c_w4 _ _ (by omega)).trans (by go_simp) | go_simp); have l0_1_w4 : w4.frozen? ⟨w.heap.size, 1, none⟩ = false := (by first | exact (f_w4 _ _ (by omega)).trans (by go_simp) | go_simp); clear c_w4 f_w4))
  exact bodyPost_ret (v := (.agg #[.int .i64 ((deI n).lo), .int .i64 ((deI n).hi)])) (by simp [results, Tryz.results89, go_sem, deI, dpI, siI, *]) rfl ⟨rfl, by (repeat' (first | with_reducible exact Below.refl _ _ | with_reducible assumption | with_reducible refine Below.setCell ?_ ?_ _ | with_reducible refine Below.drew ?_ | with_reducible refine below_drewN ?_ _ | with_reducible refine Below.alloc ?_ ?_ _ | with_reducible refine below_step (by assumption) ?_ ?_ | omega | exact Below.size (by assumption) | (simp; done) | (simp; omega)))⟩

set_option maxHeartbeats 400000 in
theorem sLatitude_any (a : Int) (w : World) :
    Calls Tryz.prog 105 #[.int .i64 a] w fun e w' => e = .returned (.bool (inB a (-324000) 324000)) ∧ w = w' := by
  go_enter Tryz.func105, Tryz.ntmps105
  go_wp2_with (go_at_call 54; refine (sIn_any _ _ _ _).mono ?_; rintro e w' ⟨rfl, rfl⟩)
  go_ret
  exact ⟨rfl, rfl⟩

set_option maxHeartbeats 400000 in
theorem sMinute_any (a : Int) (w : World) :
    Calls Tryz.prog 65 #[.int .i64 a] w fun e w' => e = .returned (.bool (inB a 0 1439)) ∧ w = w' := by
  go_enter Tryz.func65, Tryz.ntmps65
  go_wp2_with (go_at_call 54; refine (sIn_any _ _ _ _).mono ?_; rintro e w' ⟨rfl, rfl⟩)
  go_ret
  exact ⟨rfl, rfl⟩

set_option maxHeartbeats 400000 in
theorem sHour_any (m : Int) (w : World) (h1 : 0 ≤ m) (h2 : m ≤ 1439) :
    Calls Tryz.prog 123 #[.int .i64 m] w fun e w' => e = .returned (.int .i64 ((m - 720) * 900)) ∧ w = w' := by
  go_enter Tryz.func123, Tryz.ntmps123
  go_wp2
  go_ret
  exact ⟨rfl, rfl⟩

set_option maxHeartbeats 4000000 in
theorem sRange_any (a b : Int) (w : World) (a0 : -2000000000000 ≤ a) (a1 : a ≤ 2000000000000) (b0 : -2000000000000 ≤ b) (b1 : b ≤ 2000000000000) :
    Calls Tryz.prog 121 #[(.agg #[.int .i64 (a), .int .i64 (b)])] w fun e w' => e = .returned (.agg #[.int .i64 ((srI a b).lo), .int .i64 ((srI a b).hi)]) ∧ Below w.heap.size w w' := by
  go_enter Tryz.func121, Tryz.ntmps121
  go_wp2_with fail
  refine wp_region_bl2 8 (fun w' => w'.cell? ⟨w.heap.size, 0, none⟩ = some (.int .i64 (a)) ∧ w'.cell? ⟨w.heap.size, 1, none⟩ = some (.int .i64 (b)) ∧ w'.cell? ⟨w.heap.size + 1, 0, none⟩ = some (.int .i64 (0)) ∧ w'.cell? ⟨w.heap.size + 1, 1, none⟩ = some (.int .i64 (0))) (by kernel_rfl) (by kernel_rfl) (by rfl) (fun w' hw' => ?_) (fun hS => ?_)
  focus exact ⟨(hw'.cell (p := ⟨w.heap.size, 0, none⟩) (by first | omega | (simp; done) | (simp; omega))).trans (by go_simp), (hw'.cell (p := ⟨w.heap.size, 1, none⟩) (by first | omega | (simp; done) | (simp; omega))).trans (by go_simp), (hw'.cell (p := ⟨w.heap.size + 1, 0, none⟩) (by first | omega | (simp; done) | (simp; omega))).trans (by go_simp), (hw'.cell (p := ⟨w.heap.size + 1, 1, none⟩) (by first | omega | (simp; done) | (simp; omega))).trans (by go_simp)⟩
  have HS := Lib.hid hS; clear hS
  simp only [List.take_succ_cons, List.take_zero, List.drop_succ_cons, List.drop_zero]
  repeat (first | (refine wpBl_op ?_ ?_ (fun K hK => ?_); (focus rfl); (focus rfl); apply Exists.intro; refine ⟨fun w' hw' => ?_, ?_⟩; (focus (first | (go_simp; first | (go_at_call 122; exact sSin_any _ _ (by omega) (by omega)) | (go_at_call 161; exact sHull_any _ _ _ _ _)) | (obtain ⟨kr0, kr1, kr2, kr3⟩ := HS.out w' hw'; go_simp; rfl))); go_simp; refine hK _ ?_; clear hK K) | (refine wpBl_mk ?_ ?_ (fun K hK => ⟨fun g => .pointer (some ⟨g, 0, none⟩), ?_⟩); (focus rfl); (focus rfl); apply Exists.intro; refine ⟨fun w' => ?_, ?_⟩; (focus (go_simp; rfl)); go_simp; refine hK _ _ _ ?_; clear hK K) | (refine wpBl_no ?_ ?_ (fun K hK => ?_); (focus rfl); (focus rfl); go_simp; refine hK _ ?_; clear hK K))
  refine wpBl_end (fun w1 b_w1 => TailW_cons (fun g0_w1 h0_w1 k0_w1 n0_w1 => TailW_nil ?_))
  obtain ⟨c_w1, f_w1, z_w1⟩ := bfacts b_w1 (by first | (simp; rfl) | rfl)
  obtain ⟨cg0_w1, fg0_w1, zg0_w1⟩ := blk_facts k0_w1
  (try simp at h0_w1)
  (try simp at n0_w1)
  clear k0_w1
  have y0_w1 : w.heap.size < w1.heap.size := (by omega)
  have y1_w1 : w.heap.size + 1 < w1.heap.size := (by omega)
  have y2_w1 : g0_w1 < w1.heap.size := (by omega)
  have k0_0_w1 : w1.cell? ⟨w.heap.size, 0, none⟩ = some (.int .i64 (a)) := (by first | exact (c_w1 _ _ (by omega)).trans (by go_simp) | go_simp)
  have l0_0_w1 : w1.frozen? ⟨w.heap.size, 0, none⟩ = false := (by first | exact (f_w1 _ _ (by omega)).trans (by go_simp) | go_simp)
  have k0_1_w1 : w1.cell? ⟨w.heap.size, 1, none⟩ = some (.int .i64 (b)) := (by first | exact (c_w1 _ _ (by omega)).trans (by go_simp) | go_simp)
  have l0_1_w1 : w1.frozen? ⟨w.heap.size, 1, none⟩ = false := (by first | exact (f_w1 _ _ (by omega)).trans (by go_simp) | go_simp)
  have k1_0_w1 : w1.cell? ⟨w.heap.size + 1, 0, none⟩ = some (.int .i64 (0)) := (by first | exact (c_w1 _ _ (by omega)).trans (by go_simp) | go_simp)
  have l1_0_w1 : w1.frozen? ⟨w.heap.size + 1, 0, none⟩ = false := (by first | exact (f_w1 _ _ (by omega)).trans (by go_simp) | go_simp)
  have k1_1_w1 : w1.cell? ⟨w.heap.size + 1, 1, none⟩ = some (.int .i64 (0)) := (by first | exact (c_w1 _ _ (by omega)).trans (by go_simp) | go_simp)
  have l1_1_w1 : w1.frozen? ⟨w.heap.size + 1, 1, none⟩ = false := (by first | exact (f_w1 _ _ (by omega)).trans (by go_simp) | go_simp)
  have k2_0_w1 : w1.cell? ⟨g0_w1, 0, none⟩ = some (.int .i64 (0)) := (by first | exact (c_w1 _ _ (by omega)).trans (by go_simp) | go_simp)
  have l2_0_w1 : w1.frozen? ⟨g0_w1, 0, none⟩ = false := (by first | exact (f_w1 _ _ (by omega)).trans (by go_simp) | go_simp)
  have k2_1_w1 : w1.cell? ⟨g0_w1, 1, none⟩ = some (.int .i64 (0)) := (by first | exact (c_w1 _ _ (by omega)).trans (by go_simp) | go_simp)
  have l2_1_w1 : w1.frozen? ⟨g0_w1, 1, none⟩ = false := (by first | exact (f_w1 _ _ (by omega)).trans (by go_simp) | go_simp)
  clear c_w1 f_w1 cg0_w1 fg0_w1
  clear HS
  go_simp
  go_wp2_with fail
  have e1 : IntKind.i64.wrap (324000 - a) = 324000 - a := IntWalk.i64_in _ (by omega)
  have e2 : IntKind.i64.wrap (b - a) = b - a := IntWalk.i64_in _ (by omega)
  have e3 : IntKind.i64.wrap (-324000 - a) = -324000 - a := IntWalk.i64_in _ (by omega)
  refine wp_region_bl2 9 (fun w' => w'.cell? ⟨w.heap.size, 0, none⟩ = some (.int .i64 (a)) ∧ w'.cell? ⟨w.heap.size, 1, none⟩ = some (.int .i64 (b)) ∧ w'.cell? ⟨w.heap.size + 1, 0, none⟩ = some (.int .i64 (0)) ∧ w'.cell? ⟨w.heap.size + 1, 1, none⟩ = some (.int .i64 (0)) ∧ w'.cell? ⟨g0_w1, 0, none⟩ = some (.int .i64 ((huI ⟨sL a, sH a⟩ ⟨sL b, sH b⟩).lo)) ∧ w'.cell? ⟨g0_w1, 1, none⟩ = some (.int .i64 ((huI ⟨sL a, sH a⟩ ⟨sL b, sH b⟩).hi))) (by kernel_rfl) (by kernel_rfl) (by rfl) (fun w' hw' => ?_) (fun hS => ?_)
  focus exact ⟨(hw'.cell (p := ⟨w.heap.size, 0, none⟩) (by first | omega | (simp; done) | (simp; omega))).trans (by go_simp), (hw'.cell (p := ⟨w.heap.size, 1, none⟩) (by first | omega | (simp; done) | (simp; omega))).trans (by go_simp), (hw'.cell (p := ⟨w.heap.size + 1, 0, none⟩) (by first | omega | (simp; done) | (simp; omega))).trans (by go_simp), (hw'.cell (p := ⟨w.heap.size + 1, 1, none⟩) (by first | omega | (simp; done) | (simp; omega))).trans (by go_simp), (hw'.cell (p := ⟨g0_w1, 0, none⟩) (by first | omega | (simp; done) | (simp; omega))).trans (by go_simp), (hw'.cell (p := ⟨g0_w1, 1, none⟩) (by first | omega | (simp; done) | (simp; omega))).trans (by go_simp)⟩
  have HS := Lib.hid hS; clear hS
  simp only [List.take_succ_cons, List.take_zero, List.drop_succ_cons, List.drop_zero]
  repeat (first | (refine wpBl_op ?_ ?_ (fun K hK => ?_); (focus rfl); (focus rfl); apply Exists.intro; refine ⟨fun w' hw' => ?_, ?_⟩; (focus (first | (go_simp; first | (go_at_call 162; exact calls_below (sPlain_any _ _ (by omega) (by omega)))) | (obtain ⟨kr0, kr1, kr2, kr3, kr4, kr5⟩ := HS.out w' hw'; go_simp; rfl))); go_simp; refine hK _ ?_; clear hK K) | (refine wpBl_mk ?_ ?_ (fun K hK => ⟨fun g => .pointer (some ⟨g, 0, none⟩), ?_⟩); (focus rfl); (focus rfl); apply Exists.intro; refine ⟨fun w' => ?_, ?_⟩; (focus (go_simp; rfl)); go_simp; refine hK _ _ _ ?_; clear hK K) | (refine wpBl_no ?_ ?_ (fun K hK => ?_); (focus rfl); (focus rfl); go_simp; refine hK _ ?_; clear hK K))
  refine wpBl_end (fun w2 b_w2 => TailW_nil ?_)
  obtain ⟨c_w2, f_w2, z_w2⟩ := bfacts b_w2 (by first | (simp; rfl) | rfl)
  have y0_w2 : w.heap.size < w2.heap.size := (by omega)
  have y1_w2 : w.heap.size + 1 < w2.heap.size := (by omega)
  have y2_w2 : g0_w1 < w2.heap.size := (by omega)
  have k0_0_w2 : w2.cell? ⟨w.heap.size, 0, none⟩ = some (.int .i64 (a)) := (by first | exact (c_w2 _ _ (by omega)).trans (by go_simp) | go_simp)
  have l0_0_w2 : w2.frozen? ⟨w.heap.size, 0, none⟩ = false := (by first | exact (f_w2 _ _ (by omega)).trans (by go_simp) | go_simp)
  have k0_1_w2 : w2.cell? ⟨w.heap.size, 1, none⟩ = some (.int .i64 (b)) := (by first | exact (c_w2 _ _ (by omega)).trans (by go_simp) | go_simp)
  have l0_1_w2 : w2.frozen? ⟨w.heap.size, 1, none⟩ = false := (by first | exact (f_w2 _ _ (by omega)).trans (by go_simp) | go_simp)
  have k1_0_w2 : w2.cell? ⟨w.heap.size + 1, 0, none⟩ = some (.int .i64 (0)) := (by first | exact (c_w2 _ _ (by omega)).trans (by go_simp) | go_simp)
  have l1_0_w2 : w2.frozen? ⟨w.heap.size + 1, 0, none⟩ = false := (by first | exact (f_w2 _ _ (by omega)).trans (by go_simp) | go_simp)
  have k1_1_w2 : w2.cell? ⟨w.heap.size + 1, 1, none⟩ = some (.int .i64 (0)) := (by first | exact (c_w2 _ _ (by omega)).trans (by go_simp) | go_simp)
  have l1_1_w2 : w2.frozen? ⟨w.heap.size + 1, 1, none⟩ = false := (by first | exact (f_w2 _ _ (by omega)).trans (by go_simp) | go_simp)
  have k2_0_w2 : w2.cell? ⟨g0_w1, 0, none⟩ = some (.int .i64 ((huI ⟨sL a, sH a⟩ ⟨sL b, sH b⟩).lo)) := (by first | exact (c_w2 _ _ (by omega)).trans (by go_simp) | go_simp)
  have l2_0_w2 : w2.frozen? ⟨g0_w1, 0, none⟩ = false := (by first | exact (f_w2 _ _ (by omega)).trans (by go_simp) | go_simp)
  have k2_1_w2 : w2.cell? ⟨g0_w1, 1, none⟩ = some (.int .i64 ((huI ⟨sL a, sH a⟩ ⟨sL b, sH b⟩).hi)) := (by first | exact (c_w2 _ _ (by omega)).trans (by go_simp) | go_simp)
  have l2_1_w2 : w2.frozen? ⟨g0_w1, 1, none⟩ = false := (by first | exact (f_w2 _ _ (by omega)).trans (by go_simp) | go_simp)
  clear c_w2 f_w2
  clear HS
  go_simp
  by_cases t1 : plM (324000 - a) ≤ b - a
  · have t1' : decide (plM (324000 - a) ≤ b - a) = true := decide_eq_true t1
    go_wp2_with (go_at_call 161; refine (sHull_any _ _ _ _ _).mono ?_; rintro e w3 ⟨rfl, b_w3⟩; obtain ⟨c_w3, f_w3, z_w3⟩ := bfacts b_w3 (by first | (simp; rfl) | rfl); have y0_w3 : w.heap.size < w3.heap.size := (by omega); have y1_w3 : w.heap.size + 1 < w3.heap.size := (by omega); have y2_w3 : g0_w1 < w3.heap.size := (by omega); have k0_0_w3 : w3.cell? ⟨w.heap.size, 0, none⟩ = some (.int .i64 (a)) := (by first | exact (c_w3 _ _ (by omega)).trans (by go_simp) | go_simp); have l0_0_w3 : w3.frozen? ⟨w.heap.size, 0, none⟩ = false := (by first | exact (f_w3 _ _ (by omega)).trans (by go_simp) | go_simp); have k0_1_w3 : w3.cell? ⟨w.heap.size, 1, none⟩ = some (.int .i64 (b)) := (by first | exact (c_w3 _ _ (by omega)).trans (by go_simp) | go_simp); have l0_1_w3 : w3.frozen? ⟨w.heap.size, 1, none⟩ = false := (by first | exact (f_w3 _ _ (by omega)).trans (by go_simp) | go_simp); have k1_0_w3 : w3.cell? ⟨w.heap.size + 1, 0, none⟩ = some (.int .i64 (0)) := (by first | exact (c_w3 _ _ (by omega)).trans (by go_simp) | go_simp); have l1_0_w3 : w3.frozen? ⟨w.heap.size + 1, 0, none⟩ = false := (by first | exact (f_w3 _ _ (by omega)).trans (by go_simp) | go_simp); have k1_1_w3 : w3.cell? ⟨w.heap.size + 1, 1, none⟩ = some (.int .i64 (0)) := (by first | exact (c_w3 _ _ (by omega)).trans (by go_simp) | go_simp); have l1_1_w3 : w3.frozen? ⟨w.heap.size + 1, 1, none⟩ = false := (by first | exact (f_w3 _ _ (by omega)).trans (by go_simp) | go_simp); have k2_0_w3 : w3.cell? ⟨g0_w1, 0, none⟩ = some (.int .i64 ((huI ⟨sL a, sH a⟩ ⟨sL b, sH b⟩).lo)) := (by first | exact (c_w3 _ _ (by omega)).trans (by go_simp) | go_simp); have l2_0_w3 : w3.frozen? ⟨g0_w1, 0, none⟩ = false := (by first | exact (f_w3 _ _ (by omega)).trans (by go_simp) | go_simp); have k2_1_w3 : w3.cell? ⟨g0_w1, 1, none⟩ = some (.int .i64 ((huI ⟨sL a, sH a⟩ ⟨sL b, sH b⟩).hi)) := (by first | exact (c_w3 _ _ (by omega)).trans (by go_simp) | go_simp); have l2_1_w3 : w3.frozen? ⟨g0_w1, 1, none⟩ = false := (by first | exact (f_w3 _ _ (by omega)).trans (by go_simp) | go_simp); clear c_w3 f_w3)
    refine wp_region_bl2 9 (fun w' => w'.cell? ⟨w.heap.size, 0, none⟩ = some (.int .i64 (a)) ∧ w'.cell? ⟨w.heap.size, 1, none⟩ = some (.int .i64 (b)) ∧ w'.cell? ⟨w.heap.size + 1, 0, none⟩ = some (.int .i64 (0)) ∧ w'.cell? ⟨w.heap.size + 1, 1, none⟩ = some (.int .i64 (0)) ∧ w'.cell? ⟨g0_w1, 0, none⟩ = some (.int .i64 ((huI (huI ⟨sL a, sH a⟩ ⟨sL b, sH b⟩) ⟨1000000, 1000000⟩).lo)) ∧ w'.cell? ⟨g0_w1, 1, none⟩ = some (.int .i64 ((huI (huI ⟨sL a, sH a⟩ ⟨sL b, sH b⟩) ⟨1000000, 1000000⟩).hi))) (by kernel_rfl) (by kernel_rfl) (by rfl) (fun w' hw' => ?_) (fun hS => ?_)
    focus exact ⟨(hw'.cell (p := ⟨w.heap.size, 0, none⟩) (by first | omega | (simp; done) | (simp; omega))).trans (by go_simp), (hw'.cell (p := ⟨w.heap.size, 1, none⟩) (by first | omega | (simp; done) | (simp; omega))).trans (by go_simp), (hw'.cell (p := ⟨w.heap.size + 1, 0, none⟩) (by first | omega | (simp; done) | (simp; omega))).trans (by go_simp), (hw'.cell (p := ⟨w.heap.size + 1, 1, none⟩) (by first | omega | (simp; done) | (simp; omega))).trans (by go_simp), (hw'.cell (p := ⟨g0_w1, 0, none⟩) (by first | omega | (simp; done) | (simp; omega))).trans (by go_simp), (hw'.cell (p := ⟨g0_w1, 1, none⟩) (by first | omega | (simp; done) | (simp; omega))).trans (by go_simp)⟩
    have HS := Lib.hid hS; clear hS
    simp only [List.take_succ_cons, List.take_zero, List.drop_succ_cons, List.drop_zero]
    repeat (first | (refine wpBl_op ?_ ?_ (fun K hK => ?_); (focus rfl); (focus rfl); apply Exists.intro; refine ⟨fun w' hw' => ?_, ?_⟩; (focus (first | (go_simp; first | (go_at_call 162; exact calls_below (sPlain_any _ _ (by omega) (by omega)))) | (obtain ⟨kr0, kr1, kr2, kr3, kr4, kr5⟩ := HS.out w' hw'; go_simp; rfl))); go_simp; refine hK _ ?_; clear hK K) | (refine wpBl_mk ?_ ?_ (fun K hK => ⟨fun g => .pointer (some ⟨g, 0, none⟩), ?_⟩); (focus rfl); (focus rfl); apply Exists.intro; refine ⟨fun w' => ?_, ?_⟩; (focus (go_simp; rfl)); go_simp; refine hK _ _ _ ?_; clear hK K) | (refine wpBl_no ?_ ?_ (fun K hK => ?_); (focus rfl); (focus rfl); go_simp; refine hK _ ?_; clear hK K))
    refine wpBl_end (fun w4 b_w4 => TailW_nil ?_)
    obtain ⟨c_w4, f_w4, z_w4⟩ := bfacts b_w4 (by first | (simp; rfl) | rfl)
    have y0_w4 : w.heap.size < w4.heap.size := (by omega)
    have y1_w4 : w.heap.size + 1 < w4.heap.size := (by omega)
    have y2_w4 : g0_w1 < w4.heap.size := (by omega)
    have k0_0_w4 : w4.cell? ⟨w.heap.size, 0, none⟩ = some (.int .i64 (a)) := (by first | exact (c_w4 _ _ (by omega)).trans (by go_simp) | go_simp)
    have l0_0_w4 : w4.frozen? ⟨w.heap.size, 0, none⟩ = false := (by first | exact (f_w4 _ _ (by omega)).trans (by go_simp) | go_simp)
    have k0_1_w4 : w4.cell? ⟨w.heap.size, 1, none⟩ = some (.int .i64 (b)) := (by first | exact (c_w4 _ _ (by omega)).trans (by go_simp) | go_simp)
    have l0_1_w4 : w4.frozen? ⟨w.heap.size, 1, none⟩ = false := (by first | exact (f_w4 _ _ (by omega)).trans (by go_simp) | go_simp)
    have k1_0_w4 : w4.cell? ⟨w.heap.size + 1, 0, none⟩ = some (.int .i64 (0)) := (by first | exact (c_w4 _ _ (by omega)).trans (by go_simp) | go_simp)
    have l1_0_w4 : w4.frozen? ⟨w.heap.size + 1, 0, none⟩ = false := (by first | exact (f_w4 _ _ (by omega)).trans (by go_simp) | go_simp)
    have k1_1_w4 : w4.cell? ⟨w.heap.size + 1, 1, none⟩ = some (.int .i64 (0)) := (by first | exact (c_w4 _ _ (by omega)).trans (by go_simp) | go_simp)
    have l1_1_w4 : w4.frozen? ⟨w.heap.size + 1, 1, none⟩ = false := (by first | exact (f_w4 _ _ (by omega)).trans (by go_simp) | go_simp)
    have k2_0_w4 : w4.cell? ⟨g0_w1, 0, none⟩ = some (.int .i64 ((huI (huI ⟨sL a, sH a⟩ ⟨sL b, sH b⟩) ⟨1000000, 1000000⟩).lo)) := (by first | exact (c_w4 _ _ (by omega)).trans (by go_simp) | go_simp)
    have l2_0_w4 : w4.frozen? ⟨g0_w1, 0, none⟩ = false := (by first | exact (f_w4 _ _ (by omega)).trans (by go_simp) | go_simp)
    have k2_1_w4 : w4.cell? ⟨g0_w1, 1, none⟩ = some (.int .i64 ((huI (huI ⟨sL a, sH a⟩ ⟨sL b, sH b⟩) ⟨1000000, 1000000⟩).hi)) := (by first | exact (c_w4 _ _ (by omega)).trans (by go_simp) | go_simp)
    have l2_1_w4 : w4.frozen? ⟨g0_w1, 1, none⟩ = false := (by first | exact (f_w4 _ _ (by omega)).trans (by go_simp) | go_simp)
    clear c_w4 f_w4
    clear HS
    go_simp
    by_cases t2 : plM (-324000 - a) ≤ b - a
    · have t2' : decide (plM (-324000 - a) ≤ b - a) = true := decide_eq_true t2
      go_wp2_with (go_at_call 161; refine (sHull_any _ _ _ _ _).mono ?_; rintro e w5 ⟨rfl, b_w5⟩; obtain ⟨c_w5, f_w5, z_w5⟩ := bfacts b_w5 (by first | (simp; rfl) | rfl); have y0_w5 : w.heap.size < w5.heap.size := (by omega); have y1_w5 : w.heap.size + 1 < w5.heap.size := (by omega); have y2_w5 : g0_w1 < w5.heap.size := (by omega); have k0_0_w5 : w5.cell? ⟨w.heap.size, 0, none⟩ = some (.int .i64 (a)) := (by first | exact (c_w5 _ _ (by omega)).trans (by go_simp) | go_simp); have l0_0_w5 : w5.frozen? ⟨w.heap.size, 0, none⟩ = false := (by first | exact (f_w5 _ _ (by omega)).trans (by go_simp) | go_simp); have k0_1_w5 : w5.cell? ⟨w.heap.size, 1, none⟩ = some (.int .i64 (b)) := (by first | exact (c_w5 _ _ (by omega)).trans (by go_simp) | go_simp); have l0_1_w5 : w5.frozen? ⟨w.heap.size, 1, none⟩ = false := (by first | exact (f_w5 _ _ (by omega)).trans (by go_simp) | go_simp); have k1_0_w5 : w5.cell? ⟨w.heap.size + 1, 0, none⟩ = some (.int .i64 (0)) := (by first | exact (c_w5 _ _ (by omega)).trans (by go_simp) | go_simp); have l1_0_w5 : w5.frozen? ⟨w.heap.size + 1, 0, none⟩ = false := (by first | exact (f_w5 _ _ (by omega)).trans (by go_simp) | go_simp); have k1_1_w5 : w5.cell? ⟨w.heap.size + 1, 1, none⟩ = some (.int .i64 (0)) := (by first | exact (c_w5 _ _ (by omega)).trans (by go_simp) | go_simp); have l1_1_w5 : w5.frozen? ⟨w.heap.size + 1, 1, none⟩ = false := (by first | exact (f_w5 _ _ (by omega)).trans (by go_simp) | go_simp); have k2_0_w5 : w5.cell? ⟨g0_w1, 0, none⟩ = some (.int .i64 ((huI (huI ⟨sL a, sH a⟩ ⟨sL b, sH b⟩) ⟨1000000, 1000000⟩).lo)) := (by first | exact (c_w5 _ _ (by omega)).trans (by go_simp) | go_simp); have l2_0_w5 : w5.frozen? ⟨g0_w1, 0, none⟩ = false := (by first | exact (f_w5 _ _ (by omega)).trans (by go_simp) | go_simp); have k2_1_w5 : w5.cell? ⟨g0_w1, 1, none⟩ = some (.int .i64 ((huI (huI ⟨sL a, sH a⟩ ⟨sL b, sH b⟩) ⟨1000000, 1000000⟩).hi)) := (by first | exact (c_w5 _ _ (by omega)).trans (by go_simp) | go_simp); have l2_1_w5 : w5.frozen? ⟨g0_w1, 1, none⟩ = false := (by first | exact (f_w5 _ _ (by omega)).trans (by go_simp) | go_simp); clear c_w5 f_w5)
      exact bodyPost_ret (v := (.agg #[.int .i64 ((srI a b).lo), .int .i64 ((srI a b).hi)])) (by simp [results, Tryz.results121, go_sem, *]; constructor <;> (unfold srI; (repeat' split) <;> first | rfl | omega)) rfl ⟨rfl, by (repeat' (first | with_reducible exact Below.refl _ _ | with_reducible refine Below.setCell ?_ ?_ _ | with_reducible refine Below.drew ?_ | with_reducible refine below_drewN ?_ _ | with_reducible refine Below.alloc ?_ ?_ _ | with_reducible refine below_step b_w5 ?_ ?_ | with_reducible refine below_step b_w4 ?_ ?_ | with_reducible refine below_step b_w3 ?_ ?_ | with_reducible refine below_step b_w2 ?_ ?_ | with_reducible refine below_step b_w1 ?_ ?_ | omega | (simp; done) | (simp; omega)))⟩
    · have t2' : decide (plM (-324000 - a) ≤ b - a) = false := decide_eq_false t2
      go_wp2_with fail
      exact bodyPost_ret (v := (.agg #[.int .i64 ((srI a b).lo), .int .i64 ((srI a b).hi)])) (by simp [results, Tryz.results121, go_sem, *]; constructor <;> (unfold srI; (repeat' split) <;> first | rfl | omega)) rfl ⟨rfl, by (repeat' (first | with_reducible exact Below.refl _ _ | with_reducible refine Below.setCell ?_ ?_ _ | with_reducible refine Below.drew ?_ | with_reducible refine below_drewN ?_ _ | with_reducible refine Below.alloc ?_ ?_ _ | with_reducible refine below_step b_w4 ?_ ?_ | with_reducible refine below_step b_w3 ?_ ?_ | with_reducible refine below_step b_w2 ?_ ?_ | with_reducible refine below_step b_w1 ?_ ?_ | omega | (simp; done) | (simp; omega)))⟩
  · have t1' : decide (plM (324000 - a) ≤ b - a) = false := decide_eq_false t1
    go_wp2_with fail
    refine wp_region_bl2 9 (fun w' => w'.cell? ⟨w.heap.size, 0, none⟩ = some (.int .i64 (a)) ∧ w'.cell? ⟨w.heap.size, 1, none⟩ = some (.int .i64 (b)) ∧ w'.cell? ⟨w.heap.size + 1, 0, none⟩ = some (.int .i64 (0)) ∧ w'.cell? ⟨w.heap.size + 1, 1, none⟩ = some (.int .i64 (0)) ∧ w'.cell? ⟨g0_w1, 0, none⟩ = some (.int .i64 ((huI ⟨sL a, sH a⟩ ⟨sL b, sH b⟩).lo)) ∧ w'.cell? ⟨g0_w1, 1, none⟩ = some (.int .i64 ((huI ⟨sL a, sH a⟩ ⟨sL b, sH b⟩).hi))) (by kernel_rfl) (by kernel_rfl) (by rfl) (fun w' hw' => ?_) (fun hS => ?_)
    focus exact ⟨(hw'.cell (p := ⟨w.heap.size, 0, none⟩) (by first | omega | (simp; done) | (simp; omega))).trans (by go_simp), (hw'.cell (p := ⟨w.heap.size, 1, none⟩) (by first | omega | (simp; done) | (simp; omega))).trans (by go_simp), (hw'.cell (p := ⟨w.heap.size + 1, 0, none⟩) (by first | omega | (simp; done) | (simp; omega))).trans (by go_simp), (hw'.cell (p := ⟨w.heap.size + 1, 1, none⟩) (by first | omega | (simp; done) | (simp; omega))).trans (by go_simp), (hw'.cell (p := ⟨g0_w1, 0, none⟩) (by first | omega | (simp; done) | (simp; omega))).trans (by go_simp), (hw'.cell (p := ⟨g0_w1, 1, none⟩) (by first | omega | (simp; done) | (simp; omega))).trans (by go_simp)⟩
    have HS := Lib.hid hS; clear hS
    simp only [List.take_succ_cons, List.take_zero, List.drop_succ_cons, List.drop_zero]
    repeat (first | (refine wpBl_op ?_ ?_ (fun K hK => ?_); (focus rfl); (focus rfl); apply Exists.intro; refine ⟨fun w' hw' => ?_, ?_⟩; (focus (first | (go_simp; first | (go_at_call 162; exact calls_below (sPlain_any _ _ (by omega) (by omega)))) | (obtain ⟨kr0, kr1, kr2, kr3, kr4, kr5⟩ := HS.out w' hw'; go_simp; rfl))); go_simp; refine hK _ ?_; clear hK K) | (refine wpBl_mk ?_ ?_ (fun K hK => ⟨fun g => .pointer (some ⟨g, 0, none⟩), ?_⟩); (focus rfl); (focus rfl); apply Exists.intro; refine ⟨fun w' => ?_, ?_⟩; (focus (go_simp; rfl)); go_simp; refine hK _ _ _ ?_; clear hK K) | (refine wpBl_no ?_ ?_ (fun K hK => ?_); (focus rfl); (focus rfl); go_simp; refine hK _ ?_; clear hK K))
    refine wpBl_end (fun w4 b_w4 => TailW_nil ?_)
    obtain ⟨c_w4, f_w4, z_w4⟩ := bfacts b_w4 (by first | (simp; rfl) | rfl)
    have y0_w4 : w.heap.size < w4.heap.size := (by omega)
    have y1_w4 : w.heap.size + 1 < w4.heap.size := (by omega)
    have y2_w4 : g0_w1 < w4.heap.size := (by omega)
    have k0_0_w4 : w4.cell? ⟨w.heap.size, 0, none⟩ = some (.int .i64 (a)) := (by first | exact (c_w4 _ _ (by omega)).trans (by go_simp) | go_simp)
    have l0_0_w4 : w4.frozen? ⟨w.heap.size, 0, none⟩ = false := (by first | exact (f_w4 _ _ (by omega)).trans (by go_simp) | go_simp)
    have k0_1_w4 : w4.cell? ⟨w.heap.size, 1, none⟩ = some (.int .i64 (b)) := (by first | exact (c_w4 _ _ (by omega)).trans (by go_simp) | go_simp)
    have l0_1_w4 : w4.frozen? ⟨w.heap.size, 1, none⟩ = false := (by first | exact (f_w4 _ _ (by omega)).trans (by go_simp) | go_simp)
    have k1_0_w4 : w4.cell? ⟨w.heap.size + 1, 0, none⟩ = some (.int .i64 (0)) := (by first | exact (c_w4 _ _ (by omega)).trans (by go_simp) | go_simp)
    have l1_0_w4 : w4.frozen? ⟨w.heap.size + 1, 0, none⟩ = false := (by first | exact (f_w4 _ _ (by omega)).trans (by go_simp) | go_simp)
    have k1_1_w4 : w4.cell? ⟨w.heap.size + 1, 1, none⟩ = some (.int .i64 (0)) := (by first | exact (c_w4 _ _ (by omega)).trans (by go_simp) | go_simp)
    have l1_1_w4 : w4.frozen? ⟨w.heap.size + 1, 1, none⟩ = false := (by first | exact (f_w4 _ _ (by omega)).trans (by go_simp) | go_simp)
    have k2_0_w4 : w4.cell? ⟨g0_w1, 0, none⟩ = some (.int .i64 ((huI ⟨sL a, sH a⟩ ⟨sL b, sH b⟩).lo)) := (by first | exact (c_w4 _ _ (by omega)).trans (by go_simp) | go_simp)
    have l2_0_w4 : w4.frozen? ⟨g0_w1, 0, none⟩ = false := (by first | exact (f_w4 _ _ (by omega)).trans (by go_simp) | go_simp)
    have k2_1_w4 : w4.cell? ⟨g0_w1, 1, none⟩ = some (.int .i64 ((huI ⟨sL a, sH a⟩ ⟨sL b, sH b⟩).hi)) := (by first | exact (c_w4 _ _ (by omega)).trans (by go_simp) | go_simp)
    have l2_1_w4 : w4.frozen? ⟨g0_w1, 1, none⟩ = false := (by first | exact (f_w4 _ _ (by omega)).trans (by go_simp) | go_simp)
    clear c_w4 f_w4
    clear HS
    go_simp
    by_cases t2 : plM (-324000 - a) ≤ b - a
    · have t2' : decide (plM (-324000 - a) ≤ b - a) = true := decide_eq_true t2
      go_wp2_with (go_at_call 161; refine (sHull_any _ _ _ _ _).mono ?_; rintro e w5 ⟨rfl, b_w5⟩; obtain ⟨c_w5, f_w5, z_w5⟩ := bfacts b_w5 (by first | (simp; rfl) | rfl); have y0_w5 : w.heap.size < w5.heap.size := (by omega); have y1_w5 : w.heap.size + 1 < w5.heap.size := (by omega); have y2_w5 : g0_w1 < w5.heap.size := (by omega); have k0_0_w5 : w5.cell? ⟨w.heap.size, 0, none⟩ = some (.int .i64 (a)) := (by first | exact (c_w5 _ _ (by omega)).trans (by go_simp) | go_simp); have l0_0_w5 : w5.frozen? ⟨w.heap.size, 0, none⟩ = false := (by first | exact (f_w5 _ _ (by omega)).trans (by go_simp) | go_simp); have k0_1_w5 : w5.cell? ⟨w.heap.size, 1, none⟩ = some (.int .i64 (b)) := (by first | exact (c_w5 _ _ (by omega)).trans (by go_simp) | go_simp); have l0_1_w5 : w5.frozen? ⟨w.heap.size, 1, none⟩ = false := (by first | exact (f_w5 _ _ (by omega)).trans (by go_simp) | go_simp); have k1_0_w5 : w5.cell? ⟨w.heap.size + 1, 0, none⟩ = some (.int .i64 (0)) := (by first | exact (c_w5 _ _ (by omega)).trans (by go_simp) | go_simp); have l1_0_w5 : w5.frozen? ⟨w.heap.size + 1, 0, none⟩ = false := (by first | exact (f_w5 _ _ (by omega)).trans (by go_simp) | go_simp); have k1_1_w5 : w5.cell? ⟨w.heap.size + 1, 1, none⟩ = some (.int .i64 (0)) := (by first | exact (c_w5 _ _ (by omega)).trans (by go_simp) | go_simp); have l1_1_w5 : w5.frozen? ⟨w.heap.size + 1, 1, none⟩ = false := (by first | exact (f_w5 _ _ (by omega)).trans (by go_simp) | go_simp); have k2_0_w5 : w5.cell? ⟨g0_w1, 0, none⟩ = some (.int .i64 ((huI ⟨sL a, sH a⟩ ⟨sL b, sH b⟩).lo)) := (by first | exact (c_w5 _ _ (by omega)).trans (by go_simp) | go_simp); have l2_0_w5 : w5.frozen? ⟨g0_w1, 0, none⟩ = false := (by first | exact (f_w5 _ _ (by omega)).trans (by go_simp) | go_simp); have k2_1_w5 : w5.cell? ⟨g0_w1, 1, none⟩ = some (.int .i64 ((huI ⟨sL a, sH a⟩ ⟨sL b, sH b⟩).hi)) := (by first | exact (c_w5 _ _ (by omega)).trans (by go_simp) | go_simp); have l2_1_w5 : w5.frozen? ⟨g0_w1, 1, none⟩ = false := (by first | exact (f_w5 _ _ (by omega)).trans (by go_simp) | go_simp); clear c_w5 f_w5)
      exact bodyPost_ret (v := (.agg #[.int .i64 ((srI a b).lo), .int .i64 ((srI a b).hi)])) (by simp [results, Tryz.results121, go_sem, *]; constructor <;> (unfold srI; (repeat' split) <;> first | rfl | omega)) rfl ⟨rfl, by (repeat' (first | with_reducible exact Below.refl _ _ | with_reducible refine Below.setCell ?_ ?_ _ | with_reducible refine Below.drew ?_ | with_reducible refine below_drewN ?_ _ | with_reducible refine Below.alloc ?_ ?_ _ | with_reducible refine below_step b_w5 ?_ ?_ | with_reducible refine below_step b_w4 ?_ ?_ | with_reducible refine below_step b_w2 ?_ ?_ | with_reducible refine below_step b_w1 ?_ ?_ | omega | (simp; done) | (simp; omega)))⟩
    · have t2' : decide (plM (-324000 - a) ≤ b - a) = false := decide_eq_false t2
      go_wp2_with fail
      exact bodyPost_ret (v := (.agg #[.int .i64 ((srI a b).lo), .int .i64 ((srI a b).hi)])) (by simp [results, Tryz.results121, go_sem, *]; constructor <;> (unfold srI; (repeat' split) <;> first | rfl | omega)) rfl ⟨rfl, by (repeat' (first | with_reducible exact Below.refl _ _ | with_reducible refine Below.setCell ?_ ?_ _ | with_reducible refine Below.drew ?_ | with_reducible refine below_drewN ?_ _ | with_reducible refine Below.alloc ?_ ?_ _ | with_reducible refine below_step b_w4 ?_ ?_ | with_reducible refine below_step b_w2 ?_ ?_ | with_reducible refine below_step b_w1 ?_ ?_ | omega | (simp; done) | (simp; omega)))⟩


end Go.Proofs.YteooegliepbcnaaGreat
