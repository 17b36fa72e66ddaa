/- What the program's functions on the declination and the direction to the sun return. -/
import Derived.Test.YteooegliepbcnaaGreatC2
namespace Go.Proofs.YteooegliepbcnaaGreat
set_option linter.unusedVariables false
set_option linter.unusedSimpArgs false
set_option maxRecDepth 10000
open Go.RowKit


set_option maxHeartbeats 1000000 in
theorem declination_any (n : Int) (w : World) (h1 : -1000000 ≤ n) (h2 : n ≤ 1000000) :
    Calls Tryz.prog 80 #[.int .i64 n] w fun e w' => e = .returned (.agg #[.int .i64 ((deI n).lo), .int .i64 ((deI n).hi)]) ∧ Below w.heap.size w w' := by
  have b1 := s_bd 84380
  have b2 := s_bd (slM n)
  have b3 := slM_bd n
  have b4 := asI_bd (muI ⟨sL 84380, sH 84380⟩ ⟨sL (slM n), sH (slM n)⟩).lo (muI ⟨sL 84380, sH 84380⟩ ⟨sL (slM n), sH (slM n)⟩).hi
  go_enter Tryz.func80, Tryz.ntmps80
  go_wp2_with (first | (go_at_call 109; refine (sine_any _ _ (by omega) (by omega)).mono ?_; rintro e w1 ⟨rfl, b_w1⟩; obtain ⟨c_w1, f_w1, z_w1⟩ := bfacts b_w1 (by first | (simp; rfl) | rfl); have y0_w1 : w.heap.size < w1.heap.size := (by omega); have k0_0_w1 : w1.cell? ⟨w.heap.size, 0, none⟩ = some (.int .i64 (0)) := (by first | exact (c_w1 _ _ (by omega)).trans (by go_simp) | go_simp); have l0_0_w1 : w1.frozen? ⟨w.heap.size, 0, none⟩ = false := (by first | exact (f_w1 _ _ (by omega)).trans (by go_simp) | go_simp); have k0_1_w1 : w1.cell? ⟨w.heap.size, 1, none⟩ = some (.int .i64 (0)) := (by first | exact (c_w1 _ _ (by omega)).trans (by go_simp) | go_simp); have l0_1_w1 : w1.frozen? ⟨w.heap.size, 1, none⟩ = false := (by first | exact (f_w1 _ _ (by omega)).trans (by go_simp) | go_simp); clear c_w1 f_w1) | (go_at_call 111; refine (sunLongitude_any _ _ h1 h2).mono ?_; rintro e w' ⟨rfl, rfl⟩) | (go_at_call 110; refine (times_any _ _ _ _ _ (by omega) (by omega) (by omega) (by omega) (by omega) (by omega) (by omega) (by omega)).mono ?_; rintro e w3 ⟨rfl, b_w3⟩; obtain ⟨c_w3, f_w3, z_w3⟩ := bfacts b_w3 (by first | (simp; rfl) | rfl); have y0_w3 : w.heap.size < w3.heap.size := (by omega); have k0_0_w3 : w3.cell? ⟨w.heap.size, 0, none⟩ = some (.int .i64 (0)) := (by first | exact (c_w3 _ _ (by omega)).trans (by go_simp) | go_simp); have l0_0_w3 : w3.frozen? ⟨w.heap.size, 0, none⟩ = false := (by first | exact (f_w3 _ _ (by omega)).trans (by go_simp) | go_simp); have k0_1_w3 : w3.cell? ⟨w.heap.size, 1, none⟩ = some (.int .i64 (0)) := (by first | exact (c_w3 _ _ (by omega)).trans (by go_simp) | go_simp); have l0_1_w3 : w3.frozen? ⟨w.heap.size, 1, none⟩ = false := (by first | exact (f_w3 _ _ (by omega)).trans (by go_simp) | go_simp); clear c_w3 f_w3) | (go_at_call 108; refine (ArcSineRange_any _ _ _).mono ?_; rintro e w4 ⟨rfl, b_w4⟩; obtain ⟨c_w4, f_w4, z_w4⟩ := bfacts b_w4 (by first | (simp; rfl) | rfl); have y0_w4 : w.heap.size < w4.heap.size := (by omega); have k0_0_w4 : w4.cell? ⟨w.heap.size, 0, none⟩ = some (.int .i64 (0)) := (by first | exact (c_w4 _ _ (by omega)).trans (by go_simp) | go_simp); have l0_0_w4 : w4.frozen? ⟨w.heap.size, 0, none⟩ = false := (by first | exact (f_w4 _ _ (by omega)).trans (by go_simp) | go_simp); have k0_1_w4 : w4.cell? ⟨w.heap.size, 1, none⟩ = some (.int .i64 (0)) := (by first | exact (c_w4 _ _ (by omega)).trans (by go_simp) | go_simp); have l0_1_w4 : w4.frozen? ⟨w.heap.size, 1, none⟩ = false := (by first | exact (f_w4 _ _ (by omega)).trans (by go_simp) | go_simp); clear c_w4 f_w4))
  exact bodyPost_ret (v := (.agg #[.int .i64 ((deI n).lo), .int .i64 ((deI n).hi)])) (by simp [results, Tryz.results80, go_sem, deI, dpI, siI, *]) rfl ⟨rfl, by (repeat' (first | with_reducible exact Below.refl _ _ | with_reducible assumption | with_reducible refine Below.setCell ?_ ?_ _ | with_reducible refine Below.drew ?_ | with_reducible refine below_drewN ?_ _ | with_reducible refine Below.alloc ?_ ?_ _ | with_reducible refine below_step (by assumption) ?_ ?_ | omega | exact Below.size (by assumption) | (simp; done) | (simp; omega)))⟩

set_option maxHeartbeats 400000 in
theorem cosineRange_any (a b : Int) (w : World) (a0 : -1000000000000 ≤ a) (a1 : a ≤ 1000000000000) (b0 : -1000000000000 ≤ b) (b1 : b ≤ 1000000000000) :
    Calls Tryz.prog 114 #[(.agg #[.int .i64 (a), .int .i64 (b)])] w fun e w' => e = .returned (.agg #[.int .i64 ((srI (a + 324000) (b + 324000)).lo), .int .i64 ((srI (a + 324000) (b + 324000)).hi)]) ∧ Below w.heap.size w w' := by
  go_enter Tryz.func114, Tryz.ntmps114
  go_wp2_with (first | (go_at_call 158; refine (shifted_any _ _ _ _ (by omega) (by omega) (by omega) (by omega) (by omega) (by omega)).mono ?_; rintro e w1 ⟨rfl, b_w1⟩; obtain ⟨c_w1, f_w1, z_w1⟩ := bfacts b_w1 (by first | (simp; rfl) | rfl); have y0_w1 : w.heap.size < w1.heap.size := (by omega); have y1_w1 : w.heap.size + 1 < w1.heap.size := (by omega); have k0_0_w1 : w1.cell? ⟨w.heap.size, 0, none⟩ = some (.int .i64 (a)) := (by first | exact (c_w1 _ _ (by omega)).trans (by go_simp) | go_simp); have l0_0_w1 : w1.frozen? ⟨w.heap.size, 0, none⟩ = false := (by first | exact (f_w1 _ _ (by omega)).trans (by go_simp) | go_simp); have k0_1_w1 : w1.cell? ⟨w.heap.size, 1, none⟩ = some (.int .i64 (b)) := (by first | exact (c_w1 _ _ (by omega)).trans (by go_simp) | go_simp); have l0_1_w1 : w1.frozen? ⟨w.heap.size, 1, none⟩ = false := (by first | exact (f_w1 _ _ (by omega)).trans (by go_simp) | go_simp); have k1_0_w1 : w1.cell? ⟨w.heap.size + 1, 0, none⟩ = some (.int .i64 (0)) := (by first | exact (c_w1 _ _ (by omega)).trans (by go_simp) | go_simp); have l1_0_w1 : w1.frozen? ⟨w.heap.size + 1, 0, none⟩ = false := (by first | exact (f_w1 _ _ (by omega)).trans (by go_simp) | go_simp); have k1_1_w1 : w1.cell? ⟨w.heap.size + 1, 1, none⟩ = some (.int .i64 (0)) := (by first | exact (c_w1 _ _ (by omega)).trans (by go_simp) | go_simp); have l1_1_w1 : w1.frozen? ⟨w.heap.size + 1, 1, none⟩ = false := (by first | exact (f_w1 _ _ (by omega)).trans (by go_simp) | go_simp); clear c_w1 f_w1) | (go_at_call 113; refine (sineRange_any _ _ _ (by omega) (by omega) (by omega) (by omega)).mono ?_; rintro e w2 ⟨rfl, b_w2⟩; obtain ⟨c_w2, f_w2, z_w2⟩ := bfacts b_w2 (by first | (simp; rfl) | rfl); have y0_w2 : w.heap.size < w2.heap.size := (by omega); have y1_w2 : w.heap.size + 1 < w2.heap.size := (by omega); have k0_0_w2 : w2.cell? ⟨w.heap.size, 0, none⟩ = some (.int .i64 (a)) := (by first | exact (c_w2 _ _ (by omega)).trans (by go_simp) | go_simp); have l0_0_w2 : w2.frozen? ⟨w.heap.size, 0, none⟩ = false := (by first | exact (f_w2 _ _ (by omega)).trans (by go_simp) | go_simp); have k0_1_w2 : w2.cell? ⟨w.heap.size, 1, none⟩ = some (.int .i64 (b)) := (by first | exact (c_w2 _ _ (by omega)).trans (by go_simp) | go_simp); have l0_1_w2 : w2.frozen? ⟨w.heap.size, 1, none⟩ = false := (by first | exact (f_w2 _ _ (by omega)).trans (by go_simp) | go_simp); have k1_0_w2 : w2.cell? ⟨w.heap.size + 1, 0, none⟩ = some (.int .i64 (0)) := (by first | exact (c_w2 _ _ (by omega)).trans (by go_simp) | go_simp); have l1_0_w2 : w2.frozen? ⟨w.heap.size + 1, 0, none⟩ = false := (by first | exact (f_w2 _ _ (by omega)).trans (by go_simp) | go_simp); have k1_1_w2 : w2.cell? ⟨w.heap.size + 1, 1, none⟩ = some (.int .i64 (0)) := (by first | exact (c_w2 _ _ (by omega)).trans (by go_simp) | go_simp); have l1_1_w2 : w2.frozen? ⟨w.heap.size + 1, 1, none⟩ = false := (by first | exact (f_w2 _ _ (by omega)).trans (by go_simp) | go_simp); clear c_w2 f_w2))
  exact bodyPost_ret (v := (.agg #[.int .i64 ((srI (a + 324000) (b + 324000)).lo), .int .i64 ((srI (a + 324000) (b + 324000)).hi)])) (by simp [results, Tryz.results114, go_sem, *]) rfl ⟨rfl, by (repeat' (first | with_reducible exact Below.refl _ _ | with_reducible assumption | with_reducible refine Below.setCell ?_ ?_ _ | with_reducible refine Below.drew ?_ | with_reducible refine below_drewN ?_ _ | with_reducible refine Below.alloc ?_ ?_ _ | with_reducible refine below_step (by assumption) ?_ ?_ | omega | exact Below.size (by assumption) | (simp; done) | (simp; omega)))⟩

set_option maxHeartbeats 400000 in
theorem isLatitude_any (a : Int) (w : World) :
    Calls Tryz.prog 141 #[.int .i64 a] w fun e w' => e = .returned (.bool (inB a (-324000) 324000)) ∧ w = w' := by
  go_enter Tryz.func141, Tryz.ntmps141
  go_wp2_with (go_at_call 61; refine (in_any _ _ _ _).mono ?_; rintro e w' ⟨rfl, rfl⟩)
  go_ret
  exact ⟨rfl, rfl⟩

set_option maxHeartbeats 400000 in
theorem isMinute_any (a : Int) (w : World) :
    Calls Tryz.prog 66 #[.int .i64 a] w fun e w' => e = .returned (.bool (inB a 0 1439)) ∧ w = w' := by
  go_enter Tryz.func66, Tryz.ntmps66
  go_wp2_with (go_at_call 61; refine (in_any _ _ _ _).mono ?_; rintro e w' ⟨rfl, rfl⟩)
  go_ret
  exact ⟨rfl, rfl⟩

set_option maxHeartbeats 40000000 in
theorem sunAt_walk (lat lo hi m : Int) (w : World) (l0 : -324000 ≤ lat) (l1 : lat ≤ 324000) (a0 : -1000000000000 ≤ lo) (a1 : lo ≤ 1000000000000) (b0 : -1000000000000 ≤ hi) (b1 : hi ≤ 1000000000000) (m0 : 0 ≤ m) (m1 : m ≤ 1439)
    (s c h k f g p7 p8 p9 p10 p11 p12 : Iv)
    (e1 : srI lo hi = s)
    (e2 : srI (lo + 324000) (hi + 324000) = c)
    (e3 : sL ((m - 720) * 900) = h.lo)
    (e3' : sH ((m - 720) * 900) = h.hi)
    (e4 : sL ((m - 720) * 900 + 324000) = k.lo)
    (e4' : sH ((m - 720) * 900 + 324000) = k.hi)
    (e5 : sL lat = f.lo)
    (e5' : sH lat = f.hi)
    (e6 : sL (lat + 324000) = g.lo)
    (e6' : sH (lat + 324000) = g.hi)
    (e7 : muI ⟨c.lo, c.hi⟩ ⟨h.lo, h.hi⟩ = p7)
    (e8 : muI ⟨c.lo, c.hi⟩ ⟨k.lo, k.hi⟩ = p8)
    (e9 : muI ⟨s.lo, s.hi⟩ ⟨g.lo, g.hi⟩ = p9)
    (e10 : muI ⟨p8.lo, p8.hi⟩ ⟨f.lo, f.hi⟩ = p10)
    (e11 : muI ⟨s.lo, s.hi⟩ ⟨f.lo, f.hi⟩ = p11)
    (e12 : muI ⟨p8.lo, p8.hi⟩ ⟨g.lo, g.hi⟩ = p12)
    (qs : -1100001 ≤ s.lo ∧ s.lo ≤ s.hi ∧ s.hi ≤ 1100001)
    (qc : -1100001 ≤ c.lo ∧ c.lo ≤ c.hi ∧ c.hi ≤ 1100001)
    (qh : -1100001 ≤ h.lo ∧ h.lo ≤ h.hi ∧ h.hi ≤ 1100001)
    (qk : -1100001 ≤ k.lo ∧ k.lo ≤ k.hi ∧ k.hi ≤ 1100001)
    (qf : -1100001 ≤ f.lo ∧ f.lo ≤ f.hi ∧ f.hi ≤ 1100001)
    (qg : -1100001 ≤ g.lo ∧ g.lo ≤ g.hi ∧ g.hi ≤ 1100001)
    (qp7 : -1210005 ≤ p7.lo ∧ p7.lo ≤ p7.hi ∧ p7.hi ≤ 1210005)
    (qp8 : -1210005 ≤ p8.lo ∧ p8.lo ≤ p8.hi ∧ p8.hi ≤ 1210005)
    (qp9 : -1210005 ≤ p9.lo ∧ p9.lo ≤ p9.hi ∧ p9.hi ≤ 1210005)
    (qp10 : -1331009 ≤ p10.lo ∧ p10.lo ≤ p10.hi ∧ p10.hi ≤ 1331009)
    (qp11 : -1210005 ≤ p11.lo ∧ p11.lo ≤ p11.hi ∧ p11.hi ≤ 1210005)
    (qp12 : -1331009 ≤ p12.lo ∧ p12.lo ≤ p12.hi ∧ p12.hi ≤ 1331009)
    : Calls Tryz.prog 82 #[.int .i64 lat, (.agg #[.int .i64 (lo), .int .i64 (hi)]), .int .i64 m] w fun e w' => e = .returned (.agg #[.int .i64 ((miI ⟨0, 0⟩ p7).lo), .int .i64 ((miI ⟨0, 0⟩ p7).hi), .int .i64 ((miI p9 p10).lo), .int .i64 ((miI p9 p10).hi), .int .i64 ((plI p11 p12).lo), .int .i64 ((plI p11 p12).hi)]) ∧ Below w.heap.size w w' := by
  obtain ⟨qs0, qs1, qs2⟩ := qs
  obtain ⟨qc0, qc1, qc2⟩ := qc
  obtain ⟨qh0, qh1, qh2⟩ := qh
  obtain ⟨qk0, qk1, qk2⟩ := qk
  obtain ⟨qf0, qf1, qf2⟩ := qf
  obtain ⟨qg0, qg1, qg2⟩ := qg
  obtain ⟨qp70, qp71, qp72⟩ := qp7
  obtain ⟨qp80, qp81, qp82⟩ := qp8
  obtain ⟨qp90, qp91, qp92⟩ := qp9
  obtain ⟨qp100, qp101, qp102⟩ := qp10
  obtain ⟨qp110, qp111, qp112⟩ := qp11
  obtain ⟨qp120, qp121, qp122⟩ := qp12
  go_enter Tryz.func82, Tryz.ntmps82
  go_wp2_with fail
  refine wp_region_bl2 6 (fun w' => w'.cell? ⟨w.heap.size, 0, none⟩ = some (.int .i64 (lo)) ∧ w'.cell? ⟨w.heap.size, 1, none⟩ = some (.int .i64 (hi)) ∧ w'.cell? ⟨w.heap.size + 1, 0, none⟩ = some (.int .i64 (0)) ∧ w'.cell? ⟨w.heap.size + 1, 1, none⟩ = some (.int .i64 (0)) ∧ w'.cell? ⟨w.heap.size + 1, 2, none⟩ = some (.int .i64 (0)) ∧ w'.cell? ⟨w.heap.size + 1, 3, none⟩ = some (.int .i64 (0)) ∧ w'.cell? ⟨w.heap.size + 1, 4, none⟩ = some (.int .i64 (0)) ∧ w'.cell? ⟨w.heap.size + 1, 5, none⟩ = some (.int .i64 (0))) (by kernel_rfl) (by kernel_rfl) (by rfl) (fun w' hw' => ?_) (fun hS => ?_)
  focus exact ⟨(hw'.cell (p := ⟨w.heap.size, 0, none⟩) (by first | omega | (simp; done) | (simp; omega))).trans (by go_simp), (hw'.cell (p := ⟨w.heap.size, 1, none⟩) (by first | omega | (simp; done) | (simp; omega))).trans (by go_simp), (hw'.cell (p := ⟨w.heap.size + 1, 0, none⟩) (by first | omega | (simp; done) | (simp; omega))).trans (by go_simp), (hw'.cell (p := ⟨w.heap.size + 1, 1, none⟩) (by first | omega | (simp; done) | (simp; omega))).trans (by go_simp), (hw'.cell (p := ⟨w.heap.size + 1, 2, none⟩) (by first | omega | (simp; done) | (simp; omega))).trans (by go_simp), (hw'.cell (p := ⟨w.heap.size + 1, 3, none⟩) (by first | omega | (simp; done) | (simp; omega))).trans (by go_simp), (hw'.cell (p := ⟨w.heap.size + 1, 4, none⟩) (by first | omega | (simp; done) | (simp; omega))).trans (by go_simp), (hw'.cell (p := ⟨w.heap.size + 1, 5, none⟩) (by first | omega | (simp; done) | (simp; omega))).trans (by go_simp)⟩
  have HS := Lib.hid hS; clear hS
  simp only [List.take_succ_cons, List.take_zero, List.drop_succ_cons, List.drop_zero]
  repeat (first | (refine wpBl_op ?_ ?_ (fun K hK => ?_); (focus rfl); (focus rfl); apply Exists.intro; refine ⟨fun w' hw' => ?_, ?_⟩; (focus (first | (go_simp; first | (go_at_call 113; exact sineRange_any _ _ _ (by omega) (by omega) (by omega) (by omega)) | (go_at_call 114; exact cosineRange_any _ _ _ (by omega) (by omega) (by omega) (by omega))) | (obtain ⟨kr0, kr1, kr2, kr3, kr4, kr5, kr6, kr7⟩ := HS.out w' hw'; go_simp; rfl))); go_simp; refine hK _ ?_; clear hK K) | (refine wpBl_mk ?_ ?_ (fun K hK => ⟨fun g => .pointer (some ⟨g, 0, none⟩), ?_⟩); (focus rfl); (focus rfl); apply Exists.intro; refine ⟨fun w' => ?_, ?_⟩; (focus (go_simp; rfl)); go_simp; refine hK _ _ _ ?_; clear hK K) | (refine wpBl_no ?_ ?_ (fun K hK => ?_); (focus rfl); (focus rfl); go_simp; refine hK _ ?_; clear hK K))
  refine wpBl_end (fun w1 b_w1 => TailW_cons (fun g0_w1 h0_w1 k0_w1 n0_w1 => TailW_cons (fun g1_w1 h1_w1 k1_w1 n1_w1 => TailW_nil ?_)))
  obtain ⟨c_w1, f_w1, z_w1⟩ := bfacts b_w1 (by first | (simp; rfl) | rfl)
  obtain ⟨cg0_w1, fg0_w1, zg0_w1⟩ := blk_facts k0_w1
  (try simp at h0_w1)
  (try simp at n0_w1)
  clear k0_w1
  obtain ⟨cg1_w1, fg1_w1, zg1_w1⟩ := blk_facts k1_w1
  (try simp at h1_w1)
  (try simp at n1_w1)
  clear k1_w1
  have y0_w1 : w.heap.size < w1.heap.size := (by omega)
  have y1_w1 : w.heap.size + 1 < w1.heap.size := (by omega)
  have y2_w1 : g0_w1 < w1.heap.size := (by omega)
  have y3_w1 : g1_w1 < w1.heap.size := (by omega)
  have k0_0_w1 : w1.cell? ⟨w.heap.size, 0, none⟩ = some (.int .i64 (lo)) := (by first | exact (c_w1 _ _ (by omega)).trans (by go_simp) | go_simp)
  have l0_0_w1 : w1.frozen? ⟨w.heap.size, 0, none⟩ = false := (by first | exact (f_w1 _ _ (by omega)).trans (by go_simp) | go_simp)
  have k0_1_w1 : w1.cell? ⟨w.heap.size, 1, none⟩ = some (.int .i64 (hi)) := (by first | exact (c_w1 _ _ (by omega)).trans (by go_simp) | go_simp)
  have l0_1_w1 : w1.frozen? ⟨w.heap.size, 1, none⟩ = false := (by first | exact (f_w1 _ _ (by omega)).trans (by go_simp) | go_simp)
  have k1_0_w1 : w1.cell? ⟨w.heap.size + 1, 0, none⟩ = some (.int .i64 (0)) := (by first | exact (c_w1 _ _ (by omega)).trans (by go_simp) | go_simp)
  have l1_0_w1 : w1.frozen? ⟨w.heap.size + 1, 0, none⟩ = false := (by first | exact (f_w1 _ _ (by omega)).trans (by go_simp) | go_simp)
  have k1_1_w1 : w1.cell? ⟨w.heap.size + 1, 1, none⟩ = some (.int .i64 (0)) := (by first | exact (c_w1 _ _ (by omega)).trans (by go_simp) | go_simp)
  have l1_1_w1 : w1.frozen? ⟨w.heap.size + 1, 1, none⟩ = false := (by first | exact (f_w1 _ _ (by omega)).trans (by go_simp) | go_simp)
  have k1_2_w1 : w1.cell? ⟨w.heap.size + 1, 2, none⟩ = some (.int .i64 (0)) := (by first | exact (c_w1 _ _ (by omega)).trans (by go_simp) | go_simp)
  have l1_2_w1 : w1.frozen? ⟨w.heap.size + 1, 2, none⟩ = false := (by first | exact (f_w1 _ _ (by omega)).trans (by go_simp) | go_simp)
  have k1_3_w1 : w1.cell? ⟨w.heap.size + 1, 3, none⟩ = some (.int .i64 (0)) := (by first | exact (c_w1 _ _ (by omega)).trans (by go_simp) | go_simp)
  have l1_3_w1 : w1.frozen? ⟨w.heap.size + 1, 3, none⟩ = false := (by first | exact (f_w1 _ _ (by omega)).trans (by go_simp) | go_simp)
  have k1_4_w1 : w1.cell? ⟨w.heap.size + 1, 4, none⟩ = some (.int .i64 (0)) := (by first | exact (c_w1 _ _ (by omega)).trans (by go_simp) | go_simp)
  have l1_4_w1 : w1.frozen? ⟨w.heap.size + 1, 4, none⟩ = false := (by first | exact (f_w1 _ _ (by omega)).trans (by go_simp) | go_simp)
  have k1_5_w1 : w1.cell? ⟨w.heap.size + 1, 5, none⟩ = some (.int .i64 (0)) := (by first | exact (c_w1 _ _ (by omega)).trans (by go_simp) | go_simp)
  have l1_5_w1 : w1.frozen? ⟨w.heap.size + 1, 5, none⟩ = false := (by first | exact (f_w1 _ _ (by omega)).trans (by go_simp) | go_simp)
  have k2_0_w1 : w1.cell? ⟨g0_w1, 0, none⟩ = some (.int .i64 (0)) := (by first | exact (c_w1 _ _ (by omega)).trans (by go_simp) | go_simp)
  have l2_0_w1 : w1.frozen? ⟨g0_w1, 0, none⟩ = false := (by first | exact (f_w1 _ _ (by omega)).trans (by go_simp) | go_simp)
  have k2_1_w1 : w1.cell? ⟨g0_w1, 1, none⟩ = some (.int .i64 (0)) := (by first | exact (c_w1 _ _ (by omega)).trans (by go_simp) | go_simp)
  have l2_1_w1 : w1.frozen? ⟨g0_w1, 1, none⟩ = false := (by first | exact (f_w1 _ _ (by omega)).trans (by go_simp) | go_simp)
  have k3_0_w1 : w1.cell? ⟨g1_w1, 0, none⟩ = some (.int .i64 (0)) := (by first | exact (c_w1 _ _ (by omega)).trans (by go_simp) | go_simp)
  have l3_0_w1 : w1.frozen? ⟨g1_w1, 0, none⟩ = false := (by first | exact (f_w1 _ _ (by omega)).trans (by go_simp) | go_simp)
  have k3_1_w1 : w1.cell? ⟨g1_w1, 1, none⟩ = some (.int .i64 (0)) := (by first | exact (c_w1 _ _ (by omega)).trans (by go_simp) | go_simp)
  have l3_1_w1 : w1.frozen? ⟨g1_w1, 1, none⟩ = false := (by first | exact (f_w1 _ _ (by omega)).trans (by go_simp) | go_simp)
  clear c_w1 f_w1 cg0_w1 fg0_w1 cg1_w1 fg1_w1
  clear HS
  go_simp
  go_wp2_with (first | (go_at_call 109; refine (sine_any _ _ (by omega) (by omega)).mono ?_; rintro e w2 ⟨rfl, b_w2⟩; obtain ⟨c_w2, f_w2, z_w2⟩ := bfacts b_w2 (by first | (simp; rfl) | rfl); have y0_w2 : w.heap.size < w2.heap.size := (by omega); have y1_w2 : w.heap.size + 1 < w2.heap.size := (by omega); have y2_w2 : g0_w1 < w2.heap.size := (by omega); have y3_w2 : g1_w1 < w2.heap.size := (by omega); have k0_0_w2 : w2.cell? ⟨w.heap.size, 0, none⟩ = some (.int .i64 (lo)) := (by first | exact (c_w2 _ _ (by omega)).trans (by go_simp) | go_simp); have l0_0_w2 : w2.frozen? ⟨w.heap.size, 0, none⟩ = false := (by first | exact (f_w2 _ _ (by omega)).trans (by go_simp) | go_simp); have k0_1_w2 : w2.cell? ⟨w.heap.size, 1, none⟩ = some (.int .i64 (hi)) := (by first | exact (c_w2 _ _ (by omega)).trans (by go_simp) | go_simp); have l0_1_w2 : w2.frozen? ⟨w.heap.size, 1, none⟩ = false := (by first | exact (f_w2 _ _ (by omega)).trans (by go_simp) | go_simp); have k1_0_w2 : w2.cell? ⟨w.heap.size + 1, 0, none⟩ = some (.int .i64 (0)) := (by first | exact (c_w2 _ _ (by omega)).trans (by go_simp) | go_simp); have l1_0_w2 : w2.frozen? ⟨w.heap.size + 1, 0, none⟩ = false := (by first | exact (f_w2 _ _ (by omega)).trans (by go_simp) | go_simp); have k1_1_w2 : w2.cell? ⟨w.heap.size + 1, 1, none⟩ = some (.int .i64 (0)) := (by first | exact (c_w2 _ _ (by omega)).trans (by go_simp) | go_simp); have l1_1_w2 : w2.frozen? ⟨w.heap.size + 1, 1, none⟩ = false := (by first | exact (f_w2 _ _ (by omega)).trans (by go_simp) | go_simp); have k1_2_w2 : w2.cell? ⟨w.heap.size + 1, 2, none⟩ = some (.int .i64 (0)) := (by first | exact (c_w2 _ _ (by omega)).trans (by go_simp) | go_simp); have l1_2_w2 : w2.frozen? ⟨w.heap.size + 1, 2, none⟩ = false := (by first | exact (f_w2 _ _ (by omega)).trans (by go_simp) | go_simp); have k1_3_w2 : w2.cell? ⟨w.heap.size + 1, 3, none⟩ = some (.int .i64 (0)) := (by first | exact (c_w2 _ _ (by omega)).trans (by go_simp) | go_simp); have l1_3_w2 : w2.frozen? ⟨w.heap.size + 1, 3, none⟩ = false := (by first | exact (f_w2 _ _ (by omega)).trans (by go_simp) | go_simp); have k1_4_w2 : w2.cell? ⟨w.heap.size + 1, 4, none⟩ = some (.int .i64 (0)) := (by first | exact (c_w2 _ _ (by omega)).trans (by go_simp) | go_simp); have l1_4_w2 : w2.frozen? ⟨w.heap.size + 1, 4, none⟩ = false := (by first | exact (f_w2 _ _ (by omega)).trans (by go_simp) | go_simp); have k1_5_w2 : w2.cell? ⟨w.heap.size + 1, 5, none⟩ = some (.int .i64 (0)) := (by first | exact (c_w2 _ _ (by omega)).trans (by go_simp) | go_simp); have l1_5_w2 : w2.frozen? ⟨w.heap.size + 1, 5, none⟩ = false := (by first | exact (f_w2 _ _ (by omega)).trans (by go_simp) | go_simp); have k2_0_w2 : w2.cell? ⟨g0_w1, 0, none⟩ = some (.int .i64 (s.lo)) := (by first | exact (c_w2 _ _ (by omega)).trans (by go_simp) | go_simp); have l2_0_w2 : w2.frozen? ⟨g0_w1, 0, none⟩ = false := (by first | exact (f_w2 _ _ (by omega)).trans (by go_simp) | go_simp); have k2_1_w2 : w2.cell? ⟨g0_w1, 1, none⟩ = some (.int .i64 (s.hi)) := (by first | exact (c_w2 _ _ (by omega)).trans (by go_simp) | go_simp); have l2_1_w2 : w2.frozen? ⟨g0_w1, 1, none⟩ = false := (by first | exact (f_w2 _ _ (by omega)).trans (by go_simp) | go_simp); have k3_0_w2 : w2.cell? ⟨g1_w1, 0, none⟩ = some (.int .i64 (c.lo)) := (by first | exact (c_w2 _ _ (by omega)).trans (by go_simp) | go_simp); have l3_0_w2 : w2.frozen? ⟨g1_w1, 0, none⟩ = false := (by first | exact (f_w2 _ _ (by omega)).trans (by go_simp) | go_simp); have k3_1_w2 : w2.cell? ⟨g1_w1, 1, none⟩ = some (.int .i64 (c.hi)) := (by first | exact (c_w2 _ _ (by omega)).trans (by go_simp) | go_simp); have l3_1_w2 : w2.frozen? ⟨g1_w1, 1, none⟩ = false := (by first | exact (f_w2 _ _ (by omega)).trans (by go_simp) | go_simp); clear c_w2 f_w2) | (go_at_call 115; refine (cosine_any _ _ (by omega) (by omega)).mono ?_; rintro e w3 ⟨rfl, b_w3⟩; obtain ⟨c_w3, f_w3, z_w3⟩ := bfacts b_w3 (by first | (simp; rfl) | rfl); have y0_w3 : w.heap.size < w3.heap.size := (by omega); have y1_w3 : w.heap.size + 1 < w3.heap.size := (by omega); have y2_w3 : g0_w1 < w3.heap.size := (by omega); have y3_w3 : g1_w1 < w3.heap.size := (by omega); have k0_0_w3 : w3.cell? ⟨w.heap.size, 0, none⟩ = some (.int .i64 (lo)) := (by first | exact (c_w3 _ _ (by omega)).trans (by go_simp) | go_simp); have l0_0_w3 : w3.frozen? ⟨w.heap.size, 0, none⟩ = false := (by first | exact (f_w3 _ _ (by omega)).trans (by go_simp) | go_simp); have k0_1_w3 : w3.cell? ⟨w.heap.size, 1, none⟩ = some (.int .i64 (hi)) := (by first | exact (c_w3 _ _ (by omega)).trans (by go_simp) | go_simp); have l0_1_w3 : w3.frozen? ⟨w.heap.size, 1, none⟩ = false := (by first | exact (f_w3 _ _ (by omega)).trans (by go_simp) | go_simp); have k1_0_w3 : w3.cell? ⟨w.heap.size + 1, 0, none⟩ = some (.int .i64 (0)) := (by first | exact (c_w3 _ _ (by omega)).trans (by go_simp) | go_simp); have l1_0_w3 : w3.frozen? ⟨w.heap.size + 1, 0, none⟩ = false := (by first | exact (f_w3 _ _ (by omega)).trans (by go_simp) | go_simp); have k1_1_w3 : w3.cell? ⟨w.heap.size + 1, 1, none⟩ = some (.int .i64 (0)) := (by first | exact (c_w3 _ _ (by omega)).trans (by go_simp) | go_simp); have l1_1_w3 : w3.frozen? ⟨w.heap.size + 1, 1, none⟩ = false := (by first | exact (f_w3 _ _ (by omega)).trans (by go_simp) | go_simp); have k1_2_w3 : w3.cell? ⟨w.heap.size + 1, 2, none⟩ = some (.int .i64 (0)) := (by first | exact (c_w3 _ _ (by omega)).trans (by go_simp) | go_simp); have l1_2_w3 : w3.frozen? ⟨w.heap.size + 1, 2, none⟩ = false := (by first | exact (f_w3 _ _ (by omega)).trans (by go_simp) | go_simp); have k1_3_w3 : w3.cell? ⟨w.heap.size + 1, 3, none⟩ = some (.int .i64 (0)) := (by first | exact (c_w3 _ _ (by omega)).trans (by go_simp) | go_simp); have l1_3_w3 : w3.frozen? ⟨w.heap.size + 1, 3, none⟩ = false := (by first | exact (f_w3 _ _ (by omega)).trans (by go_simp) | go_simp); have k1_4_w3 : w3.cell? ⟨w.heap.size + 1, 4, none⟩ = some (.int .i64 (0)) := (by first | exact (c_w3 _ _ (by omega)).trans (by go_simp) | go_simp); have l1_4_w3 : w3.frozen? ⟨w.heap.size + 1, 4, none⟩ = false := (by first | exact (f_w3 _ _ (by omega)).trans (by go_simp) | go_simp); have k1_5_w3 : w3.cell? ⟨w.heap.size + 1, 5, none⟩ = some (.int .i64 (0)) := (by first | exact (c_w3 _ _ (by omega)).trans (by go_simp) | go_simp); have l1_5_w3 : w3.frozen? ⟨w.heap.size + 1, 5, none⟩ = false := (by first | exact (f_w3 _ _ (by omega)).trans (by go_simp) | go_simp); have k2_0_w3 : w3.cell? ⟨g0_w1, 0, none⟩ = some (.int .i64 (s.lo)) := (by first | exact (c_w3 _ _ (by omega)).trans (by go_simp) | go_simp); have l2_0_w3 : w3.frozen? ⟨g0_w1, 0, none⟩ = false := (by first | exact (f_w3 _ _ (by omega)).trans (by go_simp) | go_simp); have k2_1_w3 : w3.cell? ⟨g0_w1, 1, none⟩ = some (.int .i64 (s.hi)) := (by first | exact (c_w3 _ _ (by omega)).trans (by go_simp) | go_simp); have l2_1_w3 : w3.frozen? ⟨g0_w1, 1, none⟩ = false := (by first | exact (f_w3 _ _ (by omega)).trans (by go_simp) | go_simp); have k3_0_w3 : w3.cell? ⟨g1_w1, 0, none⟩ = some (.int .i64 (c.lo)) := (by first | exact (c_w3 _ _ (by omega)).trans (by go_simp) | go_simp); have l3_0_w3 : w3.frozen? ⟨g1_w1, 0, none⟩ = false := (by first | exact (f_w3 _ _ (by omega)).trans (by go_simp) | go_simp); have k3_1_w3 : w3.cell? ⟨g1_w1, 1, none⟩ = some (.int .i64 (c.hi)) := (by first | exact (c_w3 _ _ (by omega)).trans (by go_simp) | go_simp); have l3_1_w3 : w3.frozen? ⟨g1_w1, 1, none⟩ = false := (by first | exact (f_w3 _ _ (by omega)).trans (by go_simp) | go_simp); clear c_w3 f_w3))
  refine wp_region_bl2 5 (fun w' => w'.cell? ⟨w.heap.size, 0, none⟩ = some (.int .i64 (lo)) ∧ w'.cell? ⟨w.heap.size, 1, none⟩ = some (.int .i64 (hi)) ∧ w'.cell? ⟨w.heap.size + 1, 0, none⟩ = some (.int .i64 (0)) ∧ w'.cell? ⟨w.heap.size + 1, 1, none⟩ = some (.int .i64 (0)) ∧ w'.cell? ⟨w.heap.size + 1, 2, none⟩ = some (.int .i64 (0)) ∧ w'.cell? ⟨w.heap.size + 1, 3, none⟩ = some (.int .i64 (0)) ∧ w'.cell? ⟨w.heap.size + 1, 4, none⟩ = some (.int .i64 (0)) ∧ w'.cell? ⟨w.heap.size + 1, 5, none⟩ = some (.int .i64 (0)) ∧ w'.cell? ⟨g0_w1, 0, none⟩ = some (.int .i64 (s.lo)) ∧ w'.cell? ⟨g0_w1, 1, none⟩ = some (.int .i64 (s.hi)) ∧ w'.cell? ⟨g1_w1, 0, none⟩ = some (.int .i64 (c.lo)) ∧ w'.cell? ⟨g1_w1, 1, none⟩ = some (.int .i64 (c.hi)) ∧ w'.cell? ⟨w3.heap.size, 0, none⟩ = some (.int .i64 (f.lo)) ∧ w'.cell? ⟨w3.heap.size, 1, none⟩ = some (.int .i64 (f.hi)) ∧ w'.cell? ⟨w3.heap.size + 1, 0, none⟩ = some (.int .i64 (g.lo)) ∧ w'.cell? ⟨w3.heap.size + 1, 1, none⟩ = some (.int .i64 (g.hi))) (by kernel_rfl) (by kernel_rfl) (by rfl) (fun w' hw' => ?_) (fun hS => ?_)
  focus exact ⟨(hw'.cell (p := ⟨w.heap.size, 0, none⟩) (by first | omega | (simp; done) | (simp; omega))).trans (by go_simp), (hw'.cell (p := ⟨w.heap.size, 1, none⟩) (by first | omega | (simp; done) | (simp; omega))).trans (by go_simp), (hw'.cell (p := ⟨w.heap.size + 1, 0, none⟩) (by first | omega | (simp; done) | (simp; omega))).trans (by go_simp), (hw'.cell (p := ⟨w.heap.size + 1, 1, none⟩) (by first | omega | (simp; done) | (simp; omega))).trans (by go_simp), (hw'.cell (p := ⟨w.heap.size + 1, 2, none⟩) (by first | omega | (simp; done) | (simp; omega))).trans (by go_simp), (hw'.cell (p := ⟨w.heap.size + 1, 3, none⟩) (by first | omega | (simp; done) | (simp; omega))).trans (by go_simp), (hw'.cell (p := ⟨w.heap.size + 1, 4, none⟩) (by first | omega | (simp; done) | (simp; omega))).trans (by go_simp), (hw'.cell (p := ⟨w.heap.size + 1, 5, none⟩) (by first | omega | (simp; done) | (simp; omega))).trans (by go_simp), (hw'.cell (p := ⟨g0_w1, 0, none⟩) (by first | omega | (simp; done) | (simp; omega))).trans (by go_simp), (hw'.cell (p := ⟨g0_w1, 1, none⟩) (by first | omega | (simp; done) | (simp; omega))).trans (by go_simp), (hw'.cell (p := ⟨g1_w1, 0, none⟩) (by first | omega | (simp; done) | (simp; omega))).trans (by go_simp), (hw'.cell (p := ⟨g1_w1, 1, none⟩) (by first | omega | (simp; done) | (simp; omega))).trans (by go_simp), (hw'.cell (p := ⟨w3.heap.size, 0, none⟩) (by first | omega | (simp; done) | (simp; omega))).trans (by go_simp), (hw'.cell (p := ⟨w3.heap.size, 1, none⟩) (by first | omega | (simp; done) | (simp; omega))).trans (by go_simp), (hw'.cell (p := ⟨w3.heap.size + 1, 0, none⟩) (by first | omega | (simp; done) | (simp; omega))).trans (by go_simp), (hw'.cell (p := ⟨w3.heap.size + 1, 1, none⟩) (by first | omega | (simp; done) | (simp; omega))).trans (by go_simp)⟩
  have HS := Lib.hid hS; clear hS
  simp only [List.take_succ_cons, List.take_zero, List.drop_succ_cons, List.drop_zero]
  repeat (first | (refine wpBl_op ?_ ?_ (fun K hK => ?_); (focus rfl); (focus rfl); apply Exists.intro; refine ⟨fun w' hw' => ?_, ?_⟩; (focus (first | (go_simp; first | (go_at_call 115; exact cosine_any _ _ (by omega) (by omega)) | (go_at_call 110; exact times_any _ _ _ _ _ (by omega) (by omega) (by omega) (by omega) (by omega) (by omega) (by omega) (by omega))) | (obtain ⟨kr0, kr1, kr2, kr3, kr4, kr5, kr6, kr7, kr8, kr9, kr10, kr11, kr12, kr13, kr14, kr15⟩ := HS.out w' hw'; go_simp; rfl))); go_simp; refine hK _ ?_; clear hK K) | (refine wpBl_mk ?_ ?_ (fun K hK => ⟨fun g => .pointer (some ⟨g, 0, none⟩), ?_⟩); (focus rfl); (focus rfl); apply Exists.intro; refine ⟨fun w' => ?_, ?_⟩; (focus (go_simp; rfl)); go_simp; refine hK _ _ _ ?_; clear hK K) | (refine wpBl_no ?_ ?_ (fun K hK => ?_); (focus rfl); (focus rfl); go_simp; refine hK _ ?_; clear hK K))
  refine wpBl_end (fun w4 b_w4 => TailW_cons (fun g0_w4 h0_w4 k0_w4 n0_w4 => TailW_nil ?_))
  obtain ⟨c_w4, f_w4, z_w4⟩ := bfacts b_w4 (by first | (simp; rfl) | rfl)
  obtain ⟨cg0_w4, fg0_w4, zg0_w4⟩ := blk_facts k0_w4
  (try simp at h0_w4)
  (try simp at n0_w4)
  clear k0_w4
  have y0_w4 : w.heap.size < w4.heap.size := (by omega)
  have y1_w4 : w.heap.size + 1 < w4.heap.size := (by omega)
  have y2_w4 : g0_w1 < w4.heap.size := (by omega)
  have y3_w4 : g1_w1 < w4.heap.size := (by omega)
  have y4_w4 : w3.heap.size < w4.heap.size := (by omega)
  have y5_w4 : w3.heap.size + 1 < w4.heap.size := (by omega)
  have y6_w4 : g0_w4 < w4.heap.size := (by omega)
  have k0_0_w4 : w4.cell? ⟨w.heap.size, 0, none⟩ = some (.int .i64 (lo)) := (by first | exact (c_w4 _ _ (by omega)).trans (by go_simp) | go_simp)
  have l0_0_w4 : w4.frozen? ⟨w.heap.size, 0, none⟩ = false := (by first | exact (f_w4 _ _ (by omega)).trans (by go_simp) | go_simp)
  have k0_1_w4 : w4.cell? ⟨w.heap.size, 1, none⟩ = some (.int .i64 (hi)) := (by first | exact (c_w4 _ _ (by omega)).trans (by go_simp) | go_simp)
  have l0_1_w4 : w4.frozen? ⟨w.heap.size, 1, none⟩ = false := (by first | exact (f_w4 _ _ (by omega)).trans (by go_simp) | go_simp)
  have k1_0_w4 : w4.cell? ⟨w.heap.size + 1, 0, none⟩ = some (.int .i64 (0)) := (by first | exact (c_w4 _ _ (by omega)).trans (by go_simp) | go_simp)
  have l1_0_w4 : w4.frozen? ⟨w.heap.size + 1, 0, none⟩ = false := (by first | exact (f_w4 _ _ (by omega)).trans (by go_simp) | go_simp)
  have k1_1_w4 : w4.cell? ⟨w.heap.size + 1, 1, none⟩ = some (.int .i64 (0)) := (by first | exact (c_w4 _ _ (by omega)).trans (by go_simp) | go_simp)
  have l1_1_w4 : w4.frozen? ⟨w.heap.size + 1, 1, none⟩ = false := (by first | exact (f_w4 _ _ (by omega)).trans (by go_simp) | go_simp)
  have k1_2_w4 : w4.cell? ⟨w.heap.size + 1, 2, none⟩ = some (.int .i64 (0)) := (by first | exact (c_w4 _ _ (by omega)).trans (by go_simp) | go_simp)
  have l1_2_w4 : w4.frozen? ⟨w.heap.size + 1, 2, none⟩ = false := (by first | exact (f_w4 _ _ (by omega)).trans (by go_simp) | go_simp)
  have k1_3_w4 : w4.cell? ⟨w.heap.size + 1, 3, none⟩ = some (.int .i64 (0)) := (by first | exact (c_w4 _ _ (by omega)).trans (by go_simp) | go_simp)
  have l1_3_w4 : w4.frozen? ⟨w.heap.size + 1, 3, none⟩ = false := (by first | exact (f_w4 _ _ (by omega)).trans (by go_simp) | go_simp)
  have k1_4_w4 : w4.cell? ⟨w.heap.size + 1, 4, none⟩ = some (.int .i64 (0)) := (by first | exact (c_w4 _ _ (by omega)).trans (by go_simp) | go_simp)
  have l1_4_w4 : w4.frozen? ⟨w.heap.size + 1, 4, none⟩ = false := (by first | exact (f_w4 _ _ (by omega)).trans (by go_simp) | go_simp)
  have k1_5_w4 : w4.cell? ⟨w.heap.size + 1, 5, none⟩ = some (.int .i64 (0)) := (by first | exact (c_w4 _ _ (by omega)).trans (by go_simp) | go_simp)
  have l1_5_w4 : w4.frozen? ⟨w.heap.size + 1, 5, none⟩ = false := (by first | exact (f_w4 _ _ (by omega)).trans (by go_simp) | go_simp)
  have k2_0_w4 : w4.cell? ⟨g0_w1, 0, none⟩ = some (.int .i64 (s.lo)) := (by first | exact (c_w4 _ _ (by omega)).trans (by go_simp) | go_simp)
  have l2_0_w4 : w4.frozen? ⟨g0_w1, 0, none⟩ = false := (by first | exact (f_w4 _ _ (by omega)).trans (by go_simp) | go_simp)
  have k2_1_w4 : w4.cell? ⟨g0_w1, 1, none⟩ = some (.int .i64 (s.hi)) := (by first | exact (c_w4 _ _ (by omega)).trans (by go_simp) | go_simp)
  have l2_1_w4 : w4.frozen? ⟨g0_w1, 1, none⟩ = false := (by first | exact (f_w4 _ _ (by omega)).trans (by go_simp) | go_simp)
  have k3_0_w4 : w4.cell? ⟨g1_w1, 0, none⟩ = some (.int .i64 (c.lo)) := (by first | exact (c_w4 _ _ (by omega)).trans (by go_simp) | go_simp)
  have l3_0_w4 : w4.frozen? ⟨g1_w1, 0, none⟩ = false := (by first | exact (f_w4 _ _ (by omega)).trans (by go_simp) | go_simp)
  have k3_1_w4 : w4.cell? ⟨g1_w1, 1, none⟩ = some (.int .i64 (c.hi)) := (by first | exact (c_w4 _ _ (by omega)).trans (by go_simp) | go_simp)
  have l3_1_w4 : w4.frozen? ⟨g1_w1, 1, none⟩ = false := (by first | exact (f_w4 _ _ (by omega)).trans (by go_simp) | go_simp)
  have k4_0_w4 : w4.cell? ⟨w3.heap.size, 0, none⟩ = some (.int .i64 (f.lo)) := (by first | exact (c_w4 _ _ (by omega)).trans (by go_simp) | go_simp)
  have l4_0_w4 : w4.frozen? ⟨w3.heap.size, 0, none⟩ = false := (by first | exact (f_w4 _ _ (by omega)).trans (by go_simp) | go_simp)
  have k4_1_w4 : w4.cell? ⟨w3.heap.size, 1, none⟩ = some (.int .i64 (f.hi)) := (by first | exact (c_w4 _ _ (by omega)).trans (by go_simp) | go_simp)
  have l4_1_w4 : w4.frozen? ⟨w3.heap.size, 1, none⟩ = false := (by first | exact (f_w4 _ _ (by omega)).trans (by go_simp) | go_simp)
  have k5_0_w4 : w4.cell? ⟨w3.heap.size + 1, 0, none⟩ = some (.int .i64 (g.lo)) := (by first | exact (c_w4 _ _ (by omega)).trans (by go_simp) | go_simp)
  have l5_0_w4 : w4.frozen? ⟨w3.heap.size + 1, 0, none⟩ = false := (by first | exact (f_w4 _ _ (by omega)).trans (by go_simp) | go_simp)
  have k5_1_w4 : w4.cell? ⟨w3.heap.size + 1, 1, none⟩ = some (.int .i64 (g.hi)) := (by first | exact (c_w4 _ _ (by omega)).trans (by go_simp) | go_simp)
  have l5_1_w4 : w4.frozen? ⟨w3.heap.size + 1, 1, none⟩ = false := (by first | exact (f_w4 _ _ (by omega)).trans (by go_simp) | go_simp)
  have k6_0_w4 : w4.cell? ⟨g0_w4, 0, none⟩ = some (.int .i64 (0)) := (by first | exact (c_w4 _ _ (by omega)).trans (by go_simp) | go_simp)
  have l6_0_w4 : w4.frozen? ⟨g0_w4, 0, none⟩ = false := (by first | exact (f_w4 _ _ (by omega)).trans (by go_simp) | go_simp)
  have k6_1_w4 : w4.cell? ⟨g0_w4, 1, none⟩ = some (.int .i64 (0)) := (by first | exact (c_w4 _ _ (by omega)).trans (by go_simp) | go_simp)
  have l6_1_w4 : w4.frozen? ⟨g0_w4, 1, none⟩ = false := (by first | exact (f_w4 _ _ (by omega)).trans (by go_simp) | go_simp)
  clear c_w4 f_w4 cg0_w4 fg0_w4
  clear HS
  go_simp
  go_wp2_with fail
  refine wp_region_bl2 21 (fun w' => w'.cell? ⟨g0_w1, 0, none⟩ = some (.int .i64 (s.lo)) ∧ w'.cell? ⟨g0_w1, 1, none⟩ = some (.int .i64 (s.hi)) ∧ w'.cell? ⟨g1_w1, 0, none⟩ = some (.int .i64 (c.lo)) ∧ w'.cell? ⟨g1_w1, 1, none⟩ = some (.int .i64 (c.hi)) ∧ w'.cell? ⟨w3.heap.size, 0, none⟩ = some (.int .i64 (f.lo)) ∧ w'.cell? ⟨w3.heap.size, 1, none⟩ = some (.int .i64 (f.hi)) ∧ w'.cell? ⟨w3.heap.size + 1, 0, none⟩ = some (.int .i64 (g.lo)) ∧ w'.cell? ⟨w3.heap.size + 1, 1, none⟩ = some (.int .i64 (g.hi)) ∧ w'.cell? ⟨g0_w4, 0, none⟩ = some (.int .i64 (p8.lo)) ∧ w'.cell? ⟨g0_w4, 1, none⟩ = some (.int .i64 (p8.hi))) (by kernel_rfl) (by kernel_rfl) (by rfl) (fun w' hw' => ?_) (fun hS => ?_)
  focus exact ⟨(hw'.cell (p := ⟨g0_w1, 0, none⟩) (by first | omega | (simp; done) | (simp; omega))).trans (by go_simp), (hw'.cell (p := ⟨g0_w1, 1, none⟩) (by first | omega | (simp; done) | (simp; omega))).trans (by go_simp), (hw'.cell (p := ⟨g1_w1, 0, none⟩) (by first | omega | (simp; done) | (simp; omega))).trans (by go_simp), (hw'.cell (p := ⟨g1_w1, 1, none⟩) (by first | omega | (simp; done) | (simp; omega))).trans (by go_simp), (hw'.cell (p := ⟨w3.heap.size, 0, none⟩) (by first | omega | (simp; done) | (simp; omega))).trans (by go_simp), (hw'.cell (p := ⟨w3.heap.size, 1, none⟩) (by first | omega | (simp; done) | (simp; omega))).trans (by go_simp), (hw'.cell (p := ⟨w3.heap.size + 1, 0, none⟩) (by first | omega | (simp; done) | (simp; omega))).trans (by go_simp), (hw'.cell (p := ⟨w3.heap.size + 1, 1, none⟩) (by first | omega | (simp; done) | (simp; omega))).trans (by go_simp), (hw'.cell (p := ⟨g0_w4, 0, none⟩) (by first | omega | (simp; done) | (simp; omega))).trans (by go_simp), (hw'.cell (p := ⟨g0_w4, 1, none⟩) (by first | omega | (simp; done) | (simp; omega))).trans (by go_simp)⟩
  have HS := Lib.hid hS; clear hS
  simp only [List.take_succ_cons, List.take_zero, List.drop_succ_cons, List.drop_zero]
  repeat (first | (refine wpBl_op ?_ ?_ (fun K hK => ?_); (focus rfl); (focus rfl); apply Exists.intro; refine ⟨fun w' hw' => ?_, ?_⟩; (focus (first | (go_simp; first | (go_at_call 109; exact sine_any _ _ (by omega) (by omega)) | (go_at_call 110; exact times_any _ _ _ _ _ (by omega) (by omega) (by omega) (by omega) (by omega) (by omega) (by omega) (by omega)) | (go_at_call 116; exact minus_any _ _ _ _ _ (by omega) (by omega) (by omega) (by omega) (by omega) (by omega) (by omega) (by omega)) | (go_at_call 117; exact plus_any _ _ _ _ _ (by omega) (by omega) (by omega) (by omega) (by omega) (by omega) (by omega) (by omega))) | (obtain ⟨kr0, kr1, kr2, kr3, kr4, kr5, kr6, kr7, kr8, kr9⟩ := HS.out w' hw'; go_simp; rfl))); go_simp; refine hK _ ?_; clear hK K) | (refine wpBl_mk ?_ ?_ (fun K hK => ⟨fun g => .pointer (some ⟨g, 0, none⟩), ?_⟩); (focus rfl); (focus rfl); apply Exists.intro; refine ⟨fun w' => ?_, ?_⟩; (focus (go_simp; rfl)); go_simp; refine hK _ _ _ ?_; clear hK K) | (refine wpBl_no ?_ ?_ (fun K hK => ?_); (focus rfl); (focus rfl); go_simp; refine hK _ ?_; clear hK K))
  refine wpBl_end (fun w5 b_w5 => TailW_nil ?_)
  obtain ⟨c_w5, f_w5, z_w5⟩ := bfacts b_w5 (by first | (simp; rfl) | rfl)
  have y0_w5 : w.heap.size + 1 < w5.heap.size := (by omega)
  have yb0_w5 : w.heap.size < w5.heap.size := (by omega)
  have k0_0_w5 : w5.cell? ⟨w.heap.size + 1, 0, none⟩ = some (.int .i64 (0)) := (by first | exact (c_w5 _ _ (by omega)).trans (by go_simp) | go_simp)
  have l0_0_w5 : w5.frozen? ⟨w.heap.size + 1, 0, none⟩ = false := (by first | exact (f_w5 _ _ (by omega)).trans (by go_simp) | go_simp)
  have k0_1_w5 : w5.cell? ⟨w.heap.size + 1, 1, none⟩ = some (.int .i64 (0)) := (by first | exact (c_w5 _ _ (by omega)).trans (by go_simp) | go_simp)
  have l0_1_w5 : w5.frozen? ⟨w.heap.size + 1, 1, none⟩ = false := (by first | exact (f_w5 _ _ (by omega)).trans (by go_simp) | go_simp)
  have k0_2_w5 : w5.cell? ⟨w.heap.size + 1, 2, none⟩ = some (.int .i64 (0)) := (by first | exact (c_w5 _ _ (by omega)).trans (by go_simp) | go_simp)
  have l0_2_w5 : w5.frozen? ⟨w.heap.size + 1, 2, none⟩ = false := (by first | exact (f_w5 _ _ (by omega)).trans (by go_simp) | go_simp)
  have k0_3_w5 : w5.cell? ⟨w.heap.size + 1, 3, none⟩ = some (.int .i64 (0)) := (by first | exact (c_w5 _ _ (by omega)).trans (by go_simp) | go_simp)
  have l0_3_w5 : w5.frozen? ⟨w.heap.size + 1, 3, none⟩ = false := (by first | exact (f_w5 _ _ (by omega)).trans (by go_simp) | go_simp)
  have k0_4_w5 : w5.cell? ⟨w.heap.size + 1, 4, none⟩ = some (.int .i64 (0)) := (by first | exact (c_w5 _ _ (by omega)).trans (by go_simp) | go_simp)
  have l0_4_w5 : w5.frozen? ⟨w.heap.size + 1, 4, none⟩ = false := (by first | exact (f_w5 _ _ (by omega)).trans (by go_simp) | go_simp)
  have k0_5_w5 : w5.cell? ⟨w.heap.size + 1, 5, none⟩ = some (.int .i64 (0)) := (by first | exact (c_w5 _ _ (by omega)).trans (by go_simp) | go_simp)
  have l0_5_w5 : w5.frozen? ⟨w.heap.size + 1, 5, none⟩ = false := (by first | exact (f_w5 _ _ (by omega)).trans (by go_simp) | go_simp)
  clear c_w5 f_w5
  clear HS
  go_simp
  go_wp2
  exact bodyPost_ret (v := (.agg #[.int .i64 ((miI ⟨0, 0⟩ p7).lo), .int .i64 ((miI ⟨0, 0⟩ p7).hi), .int .i64 ((miI p9 p10).lo), .int .i64 ((miI p9 p10).hi), .int .i64 ((plI p11 p12).lo), .int .i64 ((plI p11 p12).hi)])) (by simp [results, Tryz.results82, go_sem, *]) rfl ⟨rfl, by (repeat' (first | with_reducible exact Below.refl _ _ | with_reducible refine Below.setCell ?_ ?_ _ | with_reducible refine Below.drew ?_ | with_reducible refine below_drewN ?_ _ | with_reducible refine Below.alloc ?_ ?_ _ | with_reducible refine below_step b_w5 ?_ ?_ | with_reducible refine below_step b_w4 ?_ ?_ | with_reducible refine below_step b_w3 ?_ ?_ | with_reducible refine below_step b_w2 ?_ ?_ | with_reducible refine below_step b_w1 ?_ ?_ | omega | (simp; done) | (simp; omega)))⟩
theorem sunAt_any (lat lo hi m : Int) (w : World) (l0 : -324000 ≤ lat) (l1 : lat ≤ 324000) (a0 : -1000000000000 ≤ lo) (a1 : lo ≤ 1000000000000) (b0 : -1000000000000 ≤ hi) (b1 : hi ≤ 1000000000000) (m0 : 0 ≤ m) (m1 : m ≤ 1439) :
    Calls Tryz.prog 82 #[.int .i64 lat, (.agg #[.int .i64 (lo), .int .i64 (hi)]), .int .i64 m] w fun e w' => e = .returned (.agg #[.int .i64 ((suV lat lo hi m).x.lo), .int .i64 ((suV lat lo hi m).x.hi), .int .i64 ((suV lat lo hi m).y.lo), .int .i64 ((suV lat lo hi m).y.hi), .int .i64 ((suV lat lo hi m).z.lo), .int .i64 ((suV lat lo hi m).z.hi)]) ∧ Below w.heap.size w w' :=
  sunAt_walk lat lo hi m w l0 l1 a0 a1 b0 b1 m0 m1 (srI lo hi) (srI (lo + 324000) (hi + 324000)) (siI ((m - 720) * 900)) (siI ((m - 720) * 900 + 324000)) (siI lat) (siI (lat + 324000))
    (muI (srI (lo + 324000) (hi + 324000)) (siI ((m - 720) * 900))) (flI lo hi m) (muI (srI lo hi) (siI (lat + 324000))) (muI (flI lo hi m) (siI lat)) (muI (srI lo hi) (siI lat)) (muI (flI lo hi m) (siI (lat + 324000)))
    rfl rfl rfl rfl rfl rfl rfl rfl rfl rfl rfl rfl rfl rfl rfl rfl
    (srI_bd _ _) (srI_bd _ _) (s_bd _) (s_bd _) (s_bd _) (s_bd _) (srs_bd _ _ _) (flI_bd _ _ _) (srs_bd _ _ _) (fls_bd _ _ _ _) (srs_bd _ _ _) (fls_bd _ _ _ _)


end Go.Proofs.YteooegliepbcnaaGreat
