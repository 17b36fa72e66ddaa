/- What the reference's functions on the sky and the light of minutes return. -/
import Derived.Test.YteooegliepbcnaaGreatS3
import Derived.Test.YteooegliepbcnaaGreatMath3
namespace Go.Proofs.YteooegliepbcnaaGreat
set_option linter.unusedVariables false
set_option linter.unusedSimpArgs false
set_option maxRecDepth 10000
open Go.RowKit


set_option maxHeartbeats 40000000 in
theorem sSun_walk (lat lo hi m : Int) (w : World) (l0 : -324000 ≤ lat) (l1 : lat ≤ 324000) (a0 : -1000000000000 ≤ lo) (a1 : lo ≤ 1000000000000) (b0 : -1000000000000 ≤ hi) (b1 : hi ≤ 1000000000000) (m0 : 0 ≤ m) (m1 : m ≤ 1439)
    (s c h k f g p7 p8 p9 p10 p11 p12 : Iv)
    (e1 : srI lo hi = s)
    (e2 : srI (lo + 324000) (hi + 324000) = c)
    (e3 : sL ((m - 720) * 900) = h.lo)
    (e3' : sH ((m - 720) * 900) = h.hi)
    (e4 : sL ((m - 720) * 900 + 324000) = k.lo)
    (e4' : sH ((m - 720) * 900 + 324000) = k.hi)
    (e5 : sL lat = f.lo)
    (e5' : sH lat = f.hi)
    (e6 : sL (lat + 324000) = g.lo)
    (e6' : sH (lat + 324000) = g.hi)
    (e7 : muI ⟨c.lo, c.hi⟩ ⟨h.lo, h.hi⟩ = p7)
    (e8 : muI ⟨c.lo, c.hi⟩ ⟨k.lo, k.hi⟩ = p8)
    (e9 : muI ⟨s.lo, s.hi⟩ ⟨g.lo, g.hi⟩ = p9)
    (e10 : muI ⟨p8.lo, p8.hi⟩ ⟨f.lo, f.hi⟩ = p10)
    (e11 : muI ⟨s.lo, s.hi⟩ ⟨f.lo, f.hi⟩ = p11)
    (e12 : muI ⟨p8.lo, p8.hi⟩ ⟨g.lo, g.hi⟩ = p12)
    (qs : -1100001 ≤ s.lo ∧ s.lo ≤ s.hi ∧ s.hi ≤ 1100001)
    (qc : -1100001 ≤ c.lo ∧ c.lo ≤ c.hi ∧ c.hi ≤ 1100001)
    (qh : -1100001 ≤ h.lo ∧ h.lo ≤ h.hi ∧ h.hi ≤ 1100001)
    (qk : -1100001 ≤ k.lo ∧ k.lo ≤ k.hi ∧ k.hi ≤ 1100001)
    (qf : -1100001 ≤ f.lo ∧ f.lo ≤ f.hi ∧ f.hi ≤ 1100001)
    (qg : -1100001 ≤ g.lo ∧ g.lo ≤ g.hi ∧ g.hi ≤ 1100001)
    (qp7 : -1210005 ≤ p7.lo ∧ p7.lo ≤ p7.hi ∧ p7.hi ≤ 1210005)
    (qp8 : -1210005 ≤ p8.lo ∧ p8.lo ≤ p8.hi ∧ p8.hi ≤ 1210005)
    (qp9 : -1210005 ≤ p9.lo ∧ p9.lo ≤ p9.hi ∧ p9.hi ≤ 1210005)
    (qp10 : -1331009 ≤ p10.lo ∧ p10.lo ≤ p10.hi ∧ p10.hi ≤ 1331009)
    (qp11 : -1210005 ≤ p11.lo ∧ p11.lo ≤ p11.hi ∧ p11.hi ≤ 1210005)
    (qp12 : -1331009 ≤ p12.lo ∧ p12.lo ≤ p12.hi ∧ p12.hi ≤ 1331009)
    : Calls Tryz.prog 88 #[.int .i64 lat, (.agg #[.int .i64 (lo), .int .i64 (hi)]), .int .i64 m] w fun e w' => e = .returned (.agg #[.int .i64 ((miI ⟨0, 0⟩ p7).lo), .int .i64 ((miI ⟨0, 0⟩ p7).hi), .int .i64 ((miI p9 p10).lo), .int .i64 ((miI p9 p10).hi), .int .i64 ((plI p11 p12).lo), .int .i64 ((plI p11 p12).hi)]) ∧ Below w.heap.size w w' := by
  obtain ⟨qs0, qs1, qs2⟩ := qs
  obtain ⟨qc0, qc1, qc2⟩ := qc
  obtain ⟨qh0, qh1, qh2⟩ := qh
  obtain ⟨qk0, qk1, qk2⟩ := qk
  obtain ⟨qf0, qf1, qf2⟩ := qf
  obtain ⟨qg0, qg1, qg2⟩ := qg
  obtain ⟨qp70, qp71, qp72⟩ := qp7
  obtain ⟨qp80, qp81, qp82⟩ := qp8
  obtain ⟨qp90, qp91, qp92⟩ := qp9
  obtain ⟨qp100, qp101, qp102⟩ := qp10
  obtain ⟨qp110, qp111, qp112⟩ := qp11
  obtain ⟨qp120, qp121, qp122⟩ := qp12
  go_enter Tryz.func88, Tryz.ntmps88
  go_wp2_with fail
  refine (sRange_any lo hi _ (by omega) (by omega) (by omega) (by omega)).mono ?_
  rintro _ w1 ⟨rfl, b_w1⟩
  obtain ⟨c_w1, f_w1, z_w1⟩ := bfacts b_w1 (by first | (simp; rfl) | rfl)
  have y0_w1 : w.heap.size < w1.heap.size := (by omega)
  have y1_w1 : w.heap.size + 1 < w1.heap.size := (by omega)
  have k0_0_w1 : w1.cell? ⟨w.heap.size, 0, none⟩ = some (.int .i64 (lo)) := (by first | exact (c_w1 _ _ (by omega)).trans (by go_simp) | go_simp)
  have l0_0_w1 : w1.frozen? ⟨w.heap.size, 0, none⟩ = false := (by first | exact (f_w1 _ _ (by omega)).trans (by go_simp) | go_simp)
  have k0_1_w1 : w1.cell? ⟨w.heap.size, 1, none⟩ = some (.int .i64 (hi)) := (by first | exact (c_w1 _ _ (by omega)).trans (by go_simp) | go_simp)
  have l0_1_w1 : w1.frozen? ⟨w.heap.size, 1, none⟩ = false := (by first | exact (f_w1 _ _ (by omega)).trans (by go_simp) | go_simp)
  have k1_0_w1 : w1.cell? ⟨w.heap.size + 1, 0, none⟩ = some (.int .i64 (0)) := (by first | exact (c_w1 _ _ (by omega)).trans (by go_simp) | go_simp)
  have l1_0_w1 : w1.frozen? ⟨w.heap.size + 1, 0, none⟩ = false := (by first | exact (f_w1 _ _ (by omega)).trans (by go_simp) | go_simp)
  have k1_1_w1 : w1.cell? ⟨w.heap.size + 1, 1, none⟩ = some (.int .i64 (0)) := (by first | exact (c_w1 _ _ (by omega)).trans (by go_simp) | go_simp)
  have l1_1_w1 : w1.frozen? ⟨w.heap.size + 1, 1, none⟩ = false := (by first | exact (f_w1 _ _ (by omega)).trans (by go_simp) | go_simp)
  have k1_2_w1 : w1.cell? ⟨w.heap.size + 1, 2, none⟩ = some (.int .i64 (0)) := (by first | exact (c_w1 _ _ (by omega)).trans (by go_simp) | go_simp)
  have l1_2_w1 : w1.frozen? ⟨w.heap.size + 1, 2, none⟩ = false := (by first | exact (f_w1 _ _ (by omega)).trans (by go_simp) | go_simp)
  have k1_3_w1 : w1.cell? ⟨w.heap.size + 1, 3, none⟩ = some (.int .i64 (0)) := (by first | exact (c_w1 _ _ (by omega)).trans (by go_simp) | go_simp)
  have l1_3_w1 : w1.frozen? ⟨w.heap.size + 1, 3, none⟩ = false := (by first | exact (f_w1 _ _ (by omega)).trans (by go_simp) | go_simp)
  have k1_4_w1 : w1.cell? ⟨w.heap.size + 1, 4, none⟩ = some (.int .i64 (0)) := (by first | exact (c_w1 _ _ (by omega)).trans (by go_simp) | go_simp)
  have l1_4_w1 : w1.frozen? ⟨w.heap.size + 1, 4, none⟩ = false := (by first | exact (f_w1 _ _ (by omega)).trans (by go_simp) | go_simp)
  have k1_5_w1 : w1.cell? ⟨w.heap.size + 1, 5, none⟩ = some (.int .i64 (0)) := (by first | exact (c_w1 _ _ (by omega)).trans (by go_simp) | go_simp)
  have l1_5_w1 : w1.frozen? ⟨w.heap.size + 1, 5, none⟩ = false := (by first | exact (f_w1 _ _ (by omega)).trans (by go_simp) | go_simp)
  clear c_w1 f_w1
  go_wp2_with fail
  refine (sRange_any (lo + 324000) (hi + 324000) _ (by omega) (by omega) (by omega) (by omega)).mono ?_
  rintro _ w2 ⟨rfl, b_w2⟩
  obtain ⟨c_w2, f_w2, z_w2⟩ := bfacts b_w2 (by first | (simp; rfl) | rfl)
  have y0_w2 : w.heap.size + 1 < w2.heap.size := (by omega)
  have y1_w2 : w1.heap.size < w2.heap.size := (by omega)
  have yb0_w2 : w.heap.size < w2.heap.size := (by omega)
  have k0_0_w2 : w2.cell? ⟨w.heap.size + 1, 0, none⟩ = some (.int .i64 (0)) := (by first | exact (c_w2 _ _ (by omega)).trans (by go_simp) | go_simp)
  have l0_0_w2 : w2.frozen? ⟨w.heap.size + 1, 0, none⟩ = false := (by first | exact (f_w2 _ _ (by omega)).trans (by go_simp) | go_simp)
  have k0_1_w2 : w2.cell? ⟨w.heap.size + 1, 1, none⟩ = some (.int .i64 (0)) := (by first | exact (c_w2 _ _ (by omega)).trans (by go_simp) | go_simp)
  have l0_1_w2 : w2.frozen? ⟨w.heap.size + 1, 1, none⟩ = false := (by first | exact (f_w2 _ _ (by omega)).trans (by go_simp) | go_simp)
  have k0_2_w2 : w2.cell? ⟨w.heap.size + 1, 2, none⟩ = some (.int .i64 (0)) := (by first | exact (c_w2 _ _ (by omega)).trans (by go_simp) | go_simp)
  have l0_2_w2 : w2.frozen? ⟨w.heap.size + 1, 2, none⟩ = false := (by first | exact (f_w2 _ _ (by omega)).trans (by go_simp) | go_simp)
  have k0_3_w2 : w2.cell? ⟨w.heap.size + 1, 3, none⟩ = some (.int .i64 (0)) := (by first | exact (c_w2 _ _ (by omega)).trans (by go_simp) | go_simp)
  have l0_3_w2 : w2.frozen? ⟨w.heap.size + 1, 3, none⟩ = false := (by first | exact (f_w2 _ _ (by omega)).trans (by go_simp) | go_simp)
  have k0_4_w2 : w2.cell? ⟨w.heap.size + 1, 4, none⟩ = some (.int .i64 (0)) := (by first | exact (c_w2 _ _ (by omega)).trans (by go_simp) | go_simp)
  have l0_4_w2 : w2.frozen? ⟨w.heap.size + 1, 4, none⟩ = false := (by first | exact (f_w2 _ _ (by omega)).trans (by go_simp) | go_simp)
  have k0_5_w2 : w2.cell? ⟨w.heap.size + 1, 5, none⟩ = some (.int .i64 (0)) := (by first | exact (c_w2 _ _ (by omega)).trans (by go_simp) | go_simp)
  have l0_5_w2 : w2.frozen? ⟨w.heap.size + 1, 5, none⟩ = false := (by first | exact (f_w2 _ _ (by omega)).trans (by go_simp) | go_simp)
  have k1_0_w2 : w2.cell? ⟨w1.heap.size, 0, none⟩ = some (.int .i64 (s.lo)) := (by first | exact (c_w2 _ _ (by omega)).trans (by go_simp) | go_simp)
  have l1_0_w2 : w2.frozen? ⟨w1.heap.size, 0, none⟩ = false := (by first | exact (f_w2 _ _ (by omega)).trans (by go_simp) | go_simp)
  have k1_1_w2 : w2.cell? ⟨w1.heap.size, 1, none⟩ = some (.int .i64 (s.hi)) := (by first | exact (c_w2 _ _ (by omega)).trans (by go_simp) | go_simp)
  have l1_1_w2 : w2.frozen? ⟨w1.heap.size, 1, none⟩ = false := (by first | exact (f_w2 _ _ (by omega)).trans (by go_simp) | go_simp)
  clear c_w2 f_w2
  go_wp2_with (go_at_call 123; refine (sHour_any _ _ m0 m1).mono ?_; rintro e w' ⟨rfl, rfl⟩)
  refine (sSin_any _ _ (by omega) (by omega)).mono ?_
  rintro _ w3 ⟨rfl, b_w3⟩
  obtain ⟨c_w3, f_w3, z_w3⟩ := bfacts b_w3 (by first | (simp; rfl) | rfl)
  have y0_w3 : w.heap.size + 1 < w3.heap.size := (by omega)
  have y1_w3 : w1.heap.size < w3.heap.size := (by omega)
  have y2_w3 : w2.heap.size < w3.heap.size := (by omega)
  have yb0_w3 : w.heap.size < w3.heap.size := (by omega)
  have k0_0_w3 : w3.cell? ⟨w.heap.size + 1, 0, none⟩ = some (.int .i64 (0)) := (by first | exact (c_w3 _ _ (by omega)).trans (by go_simp) | go_simp)
  have l0_0_w3 : w3.frozen? ⟨w.heap.size + 1, 0, none⟩ = false := (by first | exact (f_w3 _ _ (by omega)).trans (by go_simp) | go_simp)
  have k0_1_w3 : w3.cell? ⟨w.heap.size + 1, 1, none⟩ = some (.int .i64 (0)) := (by first | exact (c_w3 _ _ (by omega)).trans (by go_simp) | go_simp)
  have l0_1_w3 : w3.frozen? ⟨w.heap.size + 1, 1, none⟩ = false := (by first | exact (f_w3 _ _ (by omega)).trans (by go_simp) | go_simp)
  have k0_2_w3 : w3.cell? ⟨w.heap.size + 1, 2, none⟩ = some (.int .i64 (0)) := (by first | exact (c_w3 _ _ (by omega)).trans (by go_simp) | go_simp)
  have l0_2_w3 : w3.frozen? ⟨w.heap.size + 1, 2, none⟩ = false := (by first | exact (f_w3 _ _ (by omega)).trans (by go_simp) | go_simp)
  have k0_3_w3 : w3.cell? ⟨w.heap.size + 1, 3, none⟩ = some (.int .i64 (0)) := (by first | exact (c_w3 _ _ (by omega)).trans (by go_simp) | go_simp)
  have l0_3_w3 : w3.frozen? ⟨w.heap.size + 1, 3, none⟩ = false := (by first | exact (f_w3 _ _ (by omega)).trans (by go_simp) | go_simp)
  have k0_4_w3 : w3.cell? ⟨w.heap.size + 1, 4, none⟩ = some (.int .i64 (0)) := (by first | exact (c_w3 _ _ (by omega)).trans (by go_simp) | go_simp)
  have l0_4_w3 : w3.frozen? ⟨w.heap.size + 1, 4, none⟩ = false := (by first | exact (f_w3 _ _ (by omega)).trans (by go_simp) | go_simp)
  have k0_5_w3 : w3.cell? ⟨w.heap.size + 1, 5, none⟩ = some (.int .i64 (0)) := (by first | exact (c_w3 _ _ (by omega)).trans (by go_simp) | go_simp)
  have l0_5_w3 : w3.frozen? ⟨w.heap.size + 1, 5, none⟩ = false := (by first | exact (f_w3 _ _ (by omega)).trans (by go_simp) | go_simp)
  have k1_0_w3 : w3.cell? ⟨w1.heap.size, 0, none⟩ = some (.int .i64 (s.lo)) := (by first | exact (c_w3 _ _ (by omega)).trans (by go_simp) | go_simp)
  have l1_0_w3 : w3.frozen? ⟨w1.heap.size, 0, none⟩ = false := (by first | exact (f_w3 _ _ (by omega)).trans (by go_simp) | go_simp)
  have k1_1_w3 : w3.cell? ⟨w1.heap.size, 1, none⟩ = some (.int .i64 (s.hi)) := (by first | exact (c_w3 _ _ (by omega)).trans (by go_simp) | go_simp)
  have l1_1_w3 : w3.frozen? ⟨w1.heap.size, 1, none⟩ = false := (by first | exact (f_w3 _ _ (by omega)).trans (by go_simp) | go_simp)
  have k2_0_w3 : w3.cell? ⟨w2.heap.size, 0, none⟩ = some (.int .i64 (c.lo)) := (by first | exact (c_w3 _ _ (by omega)).trans (by go_simp) | go_simp)
  have l2_0_w3 : w3.frozen? ⟨w2.heap.size, 0, none⟩ = false := (by first | exact (f_w3 _ _ (by omega)).trans (by go_simp) | go_simp)
  have k2_1_w3 : w3.cell? ⟨w2.heap.size, 1, none⟩ = some (.int .i64 (c.hi)) := (by first | exact (c_w3 _ _ (by omega)).trans (by go_simp) | go_simp)
  have l2_1_w3 : w3.frozen? ⟨w2.heap.size, 1, none⟩ = false := (by first | exact (f_w3 _ _ (by omega)).trans (by go_simp) | go_simp)
  clear c_w3 f_w3
  go_wp2_with (go_at_call 123; refine (sHour_any _ _ m0 m1).mono ?_; rintro e w' ⟨rfl, rfl⟩)
  refine (sCos_any _ _ (by omega) (by omega)).mono ?_
  rintro _ w4 ⟨rfl, b_w4⟩
  obtain ⟨c_w4, f_w4, z_w4⟩ := bfacts b_w4 (by first | (simp; rfl) | rfl)
  have y0_w4 : w.heap.size + 1 < w4.heap.size := (by omega)
  have y1_w4 : w1.heap.size < w4.heap.size := (by omega)
  have y2_w4 : w2.heap.size < w4.heap.size := (by omega)
  have yb0_w4 : w.heap.size < w4.heap.size := (by omega)
  have k0_0_w4 : w4.cell? ⟨w.heap.size + 1, 0, none⟩ = some (.int .i64 (0)) := (by first | exact (c_w4 _ _ (by omega)).trans (by go_simp) | go_simp)
  have l0_0_w4 : w4.frozen? ⟨w.heap.size + 1, 0, none⟩ = false := (by first | exact (f_w4 _ _ (by omega)).trans (by go_simp) | go_simp)
  have k0_1_w4 : w4.cell? ⟨w.heap.size + 1, 1, none⟩ = some (.int .i64 (0)) := (by first | exact (c_w4 _ _ (by omega)).trans (by go_simp) | go_simp)
  have l0_1_w4 : w4.frozen? ⟨w.heap.size + 1, 1, none⟩ = false := (by first | exact (f_w4 _ _ (by omega)).trans (by go_simp) | go_simp)
  have k0_2_w4 : w4.cell? ⟨w.heap.size + 1, 2, none⟩ = some (.int .i64 (0)) := (by first | exact (c_w4 _ _ (by omega)).trans (by go_simp) | go_simp)
  have l0_2_w4 : w4.frozen? ⟨w.heap.size + 1, 2, none⟩ = false := (by first | exact (f_w4 _ _ (by omega)).trans (by go_simp) | go_simp)
  have k0_3_w4 : w4.cell? ⟨w.heap.size + 1, 3, none⟩ = some (.int .i64 (0)) := (by first | exact (c_w4 _ _ (by omega)).trans (by go_simp) | go_simp)
  have l0_3_w4 : w4.frozen? ⟨w.heap.size + 1, 3, none⟩ = false := (by first | exact (f_w4 _ _ (by omega)).trans (by go_simp) | go_simp)
  have k0_4_w4 : w4.cell? ⟨w.heap.size + 1, 4, none⟩ = some (.int .i64 (0)) := (by first | exact (c_w4 _ _ (by omega)).trans (by go_simp) | go_simp)
  have l0_4_w4 : w4.frozen? ⟨w.heap.size + 1, 4, none⟩ = false := (by first | exact (f_w4 _ _ (by omega)).trans (by go_simp) | go_simp)
  have k0_5_w4 : w4.cell? ⟨w.heap.size + 1, 5, none⟩ = some (.int .i64 (0)) := (by first | exact (c_w4 _ _ (by omega)).trans (by go_simp) | go_simp)
  have l0_5_w4 : w4.frozen? ⟨w.heap.size + 1, 5, none⟩ = false := (by first | exact (f_w4 _ _ (by omega)).trans (by go_simp) | go_simp)
  have k1_0_w4 : w4.cell? ⟨w1.heap.size, 0, none⟩ = some (.int .i64 (s.lo)) := (by first | exact (c_w4 _ _ (by omega)).trans (by go_simp) | go_simp)
  have l1_0_w4 : w4.frozen? ⟨w1.heap.size, 0, none⟩ = false := (by first | exact (f_w4 _ _ (by omega)).trans (by go_simp) | go_simp)
  have k1_1_w4 : w4.cell? ⟨w1.heap.size, 1, none⟩ = some (.int .i64 (s.hi)) := (by first | exact (c_w4 _ _ (by omega)).trans (by go_simp) | go_simp)
  have l1_1_w4 : w4.frozen? ⟨w1.heap.size, 1, none⟩ = false := (by first | exact (f_w4 _ _ (by omega)).trans (by go_simp) | go_simp)
  have k2_0_w4 : w4.cell? ⟨w2.heap.size, 0, none⟩ = some (.int .i64 (c.lo)) := (by first | exact (c_w4 _ _ (by omega)).trans (by go_simp) | go_simp)
  have l2_0_w4 : w4.frozen? ⟨w2.heap.size, 0, none⟩ = false := (by first | exact (f_w4 _ _ (by omega)).trans (by go_simp) | go_simp)
  have k2_1_w4 : w4.cell? ⟨w2.heap.size, 1, none⟩ = some (.int .i64 (c.hi)) := (by first | exact (c_w4 _ _ (by omega)).trans (by go_simp) | go_simp)
  have l2_1_w4 : w4.frozen? ⟨w2.heap.size, 1, none⟩ = false := (by first | exact (f_w4 _ _ (by omega)).trans (by go_simp) | go_simp)
  clear c_w4 f_w4
  go_wp2_with fail
  refine (sSin_any _ _ (by omega) (by omega)).mono ?_
  rintro _ w5 ⟨rfl, b_w5⟩
  obtain ⟨c_w5, f_w5, z_w5⟩ := bfacts b_w5 (by first | (simp; rfl) | rfl)
  have y0_w5 : w.heap.size + 1 < w5.heap.size := (by omega)
  have y1_w5 : w1.heap.size < w5.heap.size := (by omega)
  have y2_w5 : w2.heap.size < w5.heap.size := (by omega)
  have y3_w5 : w4.heap.size < w5.heap.size := (by omega)
  have y4_w5 : w4.heap.size + 1 < w5.heap.size := (by omega)
  have yb0_w5 : w.heap.size < w5.heap.size := (by omega)
  have k0_0_w5 : w5.cell? ⟨w.heap.size + 1, 0, none⟩ = some (.int .i64 (0)) := (by first | exact (c_w5 _ _ (by omega)).trans (by go_simp) | go_simp)
  have l0_0_w5 : w5.frozen? ⟨w.heap.size + 1, 0, none⟩ = false := (by first | exact (f_w5 _ _ (by omega)).trans (by go_simp) | go_simp)
  have k0_1_w5 : w5.cell? ⟨w.heap.size + 1, 1, none⟩ = some (.int .i64 (0)) := (by first | exact (c_w5 _ _ (by omega)).trans (by go_simp) | go_simp)
  have l0_1_w5 : w5.frozen? ⟨w.heap.size + 1, 1, none⟩ = false := (by first | exact (f_w5 _ _ (by omega)).trans (by go_simp) | go_simp)
  have k0_2_w5 : w5.cell? ⟨w.heap.size + 1, 2, none⟩ = some (.int .i64 (0)) := (by first | exact (c_w5 _ _ (by omega)).trans (by go_simp) | go_simp)
  have l0_2_w5 : w5.frozen? ⟨w.heap.size + 1, 2, none⟩ = false := (by first | exact (f_w5 _ _ (by omega)).trans (by go_simp) | go_simp)
  have k0_3_w5 : w5.cell? ⟨w.heap.size + 1, 3, none⟩ = some (.int .i64 (0)) := (by first | exact (c_w5 _ _ (by omega)).trans (by go_simp) | go_simp)
  have l0_3_w5 : w5.frozen? ⟨w.heap.size + 1, 3, none⟩ = false := (by first | exact (f_w5 _ _ (by omega)).trans (by go_simp) | go_simp)
  have k0_4_w5 : w5.cell? ⟨w.heap.size + 1, 4, none⟩ = some (.int .i64 (0)) := (by first | exact (c_w5 _ _ (by omega)).trans (by go_simp) | go_simp)
  have l0_4_w5 : w5.frozen? ⟨w.heap.size + 1, 4, none⟩ = false := (by first | exact (f_w5 _ _ (by omega)).trans (by go_simp) | go_simp)
  have k0_5_w5 : w5.cell? ⟨w.heap.size + 1, 5, none⟩ = some (.int .i64 (0)) := (by first | exact (c_w5 _ _ (by omega)).trans (by go_simp) | go_simp)
  have l0_5_w5 : w5.frozen? ⟨w.heap.size + 1, 5, none⟩ = false := (by first | exact (f_w5 _ _ (by omega)).trans (by go_simp) | go_simp)
  have k1_0_w5 : w5.cell? ⟨w1.heap.size, 0, none⟩ = some (.int .i64 (s.lo)) := (by first | exact (c_w5 _ _ (by omega)).trans (by go_simp) | go_simp)
  have l1_0_w5 : w5.frozen? ⟨w1.heap.size, 0, none⟩ = false := (by first | exact (f_w5 _ _ (by omega)).trans (by go_simp) | go_simp)
  have k1_1_w5 : w5.cell? ⟨w1.heap.size, 1, none⟩ = some (.int .i64 (s.hi)) := (by first | exact (c_w5 _ _ (by omega)).trans (by go_simp) | go_simp)
  have l1_1_w5 : w5.frozen? ⟨w1.heap.size, 1, none⟩ = false := (by first | exact (f_w5 _ _ (by omega)).trans (by go_simp) | go_simp)
  have k2_0_w5 : w5.cell? ⟨w2.heap.size, 0, none⟩ = some (.int .i64 (c.lo)) := (by first | exact (c_w5 _ _ (by omega)).trans (by go_simp) | go_simp)
  have l2_0_w5 : w5.frozen? ⟨w2.heap.size, 0, none⟩ = false := (by first | exact (f_w5 _ _ (by omega)).trans (by go_simp) | go_simp)
  have k2_1_w5 : w5.cell? ⟨w2.heap.size, 1, none⟩ = some (.int .i64 (c.hi)) := (by first | exact (c_w5 _ _ (by omega)).trans (by go_simp) | go_simp)
  have l2_1_w5 : w5.frozen? ⟨w2.heap.size, 1, none⟩ = false := (by first | exact (f_w5 _ _ (by omega)).trans (by go_simp) | go_simp)
  have k3_0_w5 : w5.cell? ⟨w4.heap.size, 0, none⟩ = some (.int .i64 (h.lo)) := (by first | exact (c_w5 _ _ (by omega)).trans (by go_simp) | go_simp)
  have l3_0_w5 : w5.frozen? ⟨w4.heap.size, 0, none⟩ = false := (by first | exact (f_w5 _ _ (by omega)).trans (by go_simp) | go_simp)
  have k3_1_w5 : w5.cell? ⟨w4.heap.size, 1, none⟩ = some (.int .i64 (h.hi)) := (by first | exact (c_w5 _ _ (by omega)).trans (by go_simp) | go_simp)
  have l3_1_w5 : w5.frozen? ⟨w4.heap.size, 1, none⟩ = false := (by first | exact (f_w5 _ _ (by omega)).trans (by go_simp) | go_simp)
  have k4_0_w5 : w5.cell? ⟨w4.heap.size + 1, 0, none⟩ = some (.int .i64 (k.lo)) := (by first | exact (c_w5 _ _ (by omega)).trans (by go_simp) | go_simp)
  have l4_0_w5 : w5.frozen? ⟨w4.heap.size + 1, 0, none⟩ = false := (by first | exact (f_w5 _ _ (by omega)).trans (by go_simp) | go_simp)
  have k4_1_w5 : w5.cell? ⟨w4.heap.size + 1, 1, none⟩ = some (.int .i64 (k.hi)) := (by first | exact (c_w5 _ _ (by omega)).trans (by go_simp) | go_simp)
  have l4_1_w5 : w5.frozen? ⟨w4.heap.size + 1, 1, none⟩ = false := (by first | exact (f_w5 _ _ (by omega)).trans (by go_simp) | go_simp)
  clear c_w5 f_w5
  go_wp2_with fail
  refine (sCos_any _ _ (by omega) (by omega)).mono ?_
  rintro _ w6 ⟨rfl, b_w6⟩
  obtain ⟨c_w6, f_w6, z_w6⟩ := bfacts b_w6 (by first | (simp; rfl) | rfl)
  have y0_w6 : w.heap.size + 1 < w6.heap.size := (by omega)
  have y1_w6 : w1.heap.size < w6.heap.size := (by omega)
  have y2_w6 : w2.heap.size < w6.heap.size := (by omega)
  have y3_w6 : w4.heap.size < w6.heap.size := (by omega)
  have y4_w6 : w4.heap.size + 1 < w6.heap.size := (by omega)
  have yb0_w6 : w.heap.size < w6.heap.size := (by omega)
  have k0_0_w6 : w6.cell? ⟨w.heap.size + 1, 0, none⟩ = some (.int .i64 (0)) := (by first | exact (c_w6 _ _ (by omega)).trans (by go_simp) | go_simp)
  have l0_0_w6 : w6.frozen? ⟨w.heap.size + 1, 0, none⟩ = false := (by first | exact (f_w6 _ _ (by omega)).trans (by go_simp) | go_simp)
  have k0_1_w6 : w6.cell? ⟨w.heap.size + 1, 1, none⟩ = some (.int .i64 (0)) := (by first | exact (c_w6 _ _ (by omega)).trans (by go_simp) | go_simp)
  have l0_1_w6 : w6.frozen? ⟨w.heap.size + 1, 1, none⟩ = false := (by first | exact (f_w6 _ _ (by omega)).trans (by go_simp) | go_simp)
  have k0_2_w6 : w6.cell? ⟨w.heap.size + 1, 2, none⟩ = some (.int .i64 (0)) := (by first | exact (c_w6 _ _ (by omega)).trans (by go_simp) | go_simp)
  have l0_2_w6 : w6.frozen? ⟨w.heap.size + 1, 2, none⟩ = false := (by first | exact (f_w6 _ _ (by omega)).trans (by go_simp) | go_simp)
  have k0_3_w6 : w6.cell? ⟨w.heap.size + 1, 3, none⟩ = some (.int .i64 (0)) := (by first | exact (c_w6 _ _ (by omega)).trans (by go_simp) | go_simp)
  have l0_3_w6 : w6.frozen? ⟨w.heap.size + 1, 3, none⟩ = false := (by first | exact (f_w6 _ _ (by omega)).trans (by go_simp) | go_simp)
  have k0_4_w6 : w6.cell? ⟨w.heap.size + 1, 4, none⟩ = some (.int .i64 (0)) := (by first | exact (c_w6 _ _ (by omega)).trans (by go_simp) | go_simp)
  have l0_4_w6 : w6.frozen? ⟨w.heap.size + 1, 4, none⟩ = false := (by first | exact (f_w6 _ _ (by omega)).trans (by go_simp) | go_simp)
  have k0_5_w6 : w6.cell? ⟨w.heap.size + 1, 5, none⟩ = some (.int .i64 (0)) := (by first | exact (c_w6 _ _ (by omega)).trans (by go_simp) | go_simp)
  have l0_5_w6 : w6.frozen? ⟨w.heap.size + 1, 5, none⟩ = false := (by first | exact (f_w6 _ _ (by omega)).trans (by go_simp) | go_simp)
  have k1_0_w6 : w6.cell? ⟨w1.heap.size, 0, none⟩ = some (.int .i64 (s.lo)) := (by first | exact (c_w6 _ _ (by omega)).trans (by go_simp) | go_simp)
  have l1_0_w6 : w6.frozen? ⟨w1.heap.size, 0, none⟩ = false := (by first | exact (f_w6 _ _ (by omega)).trans (by go_simp) | go_simp)
  have k1_1_w6 : w6.cell? ⟨w1.heap.size, 1, none⟩ = some (.int .i64 (s.hi)) := (by first | exact (c_w6 _ _ (by omega)).trans (by go_simp) | go_simp)
  have l1_1_w6 : w6.frozen? ⟨w1.heap.size, 1, none⟩ = false := (by first | exact (f_w6 _ _ (by omega)).trans (by go_simp) | go_simp)
  have k2_0_w6 : w6.cell? ⟨w2.heap.size, 0, none⟩ = some (.int .i64 (c.lo)) := (by first | exact (c_w6 _ _ (by omega)).trans (by go_simp) | go_simp)
  have l2_0_w6 : w6.frozen? ⟨w2.heap.size, 0, none⟩ = false := (by first | exact (f_w6 _ _ (by omega)).trans (by go_simp) | go_simp)
  have k2_1_w6 : w6.cell? ⟨w2.heap.size, 1, none⟩ = some (.int .i64 (c.hi)) := (by first | exact (c_w6 _ _ (by omega)).trans (by go_simp) | go_simp)
  have l2_1_w6 : w6.frozen? ⟨w2.heap.size, 1, none⟩ = false := (by first | exact (f_w6 _ _ (by omega)).trans (by go_simp) | go_simp)
  have k3_0_w6 : w6.cell? ⟨w4.heap.size, 0, none⟩ = some (.int .i64 (h.lo)) := (by first | exact (c_w6 _ _ (by omega)).trans (by go_simp) | go_simp)
  have l3_0_w6 : w6.frozen? ⟨w4.heap.size, 0, none⟩ = false := (by first | exact (f_w6 _ _ (by omega)).trans (by go_simp) | go_simp)
  have k3_1_w6 : w6.cell? ⟨w4.heap.size, 1, none⟩ = some (.int .i64 (h.hi)) := (by first | exact (c_w6 _ _ (by omega)).trans (by go_simp) | go_simp)
  have l3_1_w6 : w6.frozen? ⟨w4.heap.size, 1, none⟩ = false := (by first | exact (f_w6 _ _ (by omega)).trans (by go_simp) | go_simp)
  have k4_0_w6 : w6.cell? ⟨w4.heap.size + 1, 0, none⟩ = some (.int .i64 (k.lo)) := (by first | exact (c_w6 _ _ (by omega)).trans (by go_simp) | go_simp)
  have l4_0_w6 : w6.frozen? ⟨w4.heap.size + 1, 0, none⟩ = false := (by first | exact (f_w6 _ _ (by omega)).trans (by go_simp) | go_simp)
  have k4_1_w6 : w6.cell? ⟨w4.heap.size + 1, 1, none⟩ = some (.int .i64 (k.hi)) := (by first | exact (c_w6 _ _ (by omega)).trans (by go_simp) | go_simp)
  have l4_1_w6 : w6.frozen? ⟨w4.heap.size + 1, 1, none⟩ = false := (by first | exact (f_w6 _ _ (by omega)).trans (by go_simp) | go_simp)
  clear c_w6 f_w6
  go_wp2_with fail
  refine (sMul_any c.lo c.hi k.lo k.hi _ (by omega) (by omega) (by omega) (by omega) (by omega) (by omega) (by omega) (by omega)).mono ?_
  rintro _ w7 ⟨rfl, b_w7⟩
  obtain ⟨c_w7, f_w7, z_w7⟩ := bfacts b_w7 (by first | (simp; rfl) | rfl)
  have y0_w7 : w.heap.size + 1 < w7.heap.size := (by omega)
  have y1_w7 : w1.heap.size < w7.heap.size := (by omega)
  have y2_w7 : w2.heap.size < w7.heap.size := (by omega)
  have y3_w7 : w4.heap.size < w7.heap.size := (by omega)
  have y4_w7 : w6.heap.size < w7.heap.size := (by omega)
  have y5_w7 : w6.heap.size + 1 < w7.heap.size := (by omega)
  have yb0_w7 : w.heap.size < w7.heap.size := (by omega)
  have k0_0_w7 : w7.cell? ⟨w.heap.size + 1, 0, none⟩ = some (.int .i64 (0)) := (by first | exact (c_w7 _ _ (by omega)).trans (by go_simp) | go_simp)
  have l0_0_w7 : w7.frozen? ⟨w.heap.size + 1, 0, none⟩ = false := (by first | exact (f_w7 _ _ (by omega)).trans (by go_simp) | go_simp)
  have k0_1_w7 : w7.cell? ⟨w.heap.size + 1, 1, none⟩ = some (.int .i64 (0)) := (by first | exact (c_w7 _ _ (by omega)).trans (by go_simp) | go_simp)
  have l0_1_w7 : w7.frozen? ⟨w.heap.size + 1, 1, none⟩ = false := (by first | exact (f_w7 _ _ (by omega)).trans (by go_simp) | go_simp)
  have k0_2_w7 : w7.cell? ⟨w.heap.size + 1, 2, none⟩ = some (.int .i64 (0)) := (by first | exact (c_w7 _ _ (by omega)).trans (by go_simp) | go_simp)
  have l0_2_w7 : w7.frozen? ⟨w.heap.size + 1, 2, none⟩ = false := (by first | exact (f_w7 _ _ (by omega)).trans (by go_simp) | go_simp)
  have k0_3_w7 : w7.cell? ⟨w.heap.size + 1, 3, none⟩ = some (.int .i64 (0)) := (by first | exact (c_w7 _ _ (by omega)).trans (by go_simp) | go_simp)
  have l0_3_w7 : w7.frozen? ⟨w.heap.size + 1, 3, none⟩ = false := (by first | exact (f_w7 _ _ (by omega)).trans (by go_simp) | go_simp)
  have k0_4_w7 : w7.cell? ⟨w.heap.size + 1, 4, none⟩ = some (.int .i64 (0)) := (by first | exact (c_w7 _ _ (by omega)).trans (by go_simp) | go_simp)
  have l0_4_w7 : w7.frozen? ⟨w.heap.size + 1, 4, none⟩ = false := (by first | exact (f_w7 _ _ (by omega)).trans (by go_simp) | go_simp)
  have k0_5_w7 : w7.cell? ⟨w.heap.size + 1, 5, none⟩ = some (.int .i64 (0)) := (by first | exact (c_w7 _ _ (by omega)).trans (by go_simp) | go_simp)
  have l0_5_w7 : w7.frozen? ⟨w.heap.size + 1, 5, none⟩ = false := (by first | exact (f_w7 _ _ (by omega)).trans (by go_simp) | go_simp)
  have k1_0_w7 : w7.cell? ⟨w1.heap.size, 0, none⟩ = some (.int .i64 (s.lo)) := (by first | exact (c_w7 _ _ (by omega)).trans (by go_simp) | go_simp)
  have l1_0_w7 : w7.frozen? ⟨w1.heap.size, 0, none⟩ = false := (by first | exact (f_w7 _ _ (by omega)).trans (by go_simp) | go_simp)
  have k1_1_w7 : w7.cell? ⟨w1.heap.size, 1, none⟩ = some (.int .i64 (s.hi)) := (by first | exact (c_w7 _ _ (by omega)).trans (by go_simp) | go_simp)
  have l1_1_w7 : w7.frozen? ⟨w1.heap.size, 1, none⟩ = false := (by first | exact (f_w7 _ _ (by omega)).trans (by go_simp) | go_simp)
  have k2_0_w7 : w7.cell? ⟨w2.heap.size, 0, none⟩ = some (.int .i64 (c.lo)) := (by first | exact (c_w7 _ _ (by omega)).trans (by go_simp) | go_simp)
  have l2_0_w7 : w7.frozen? ⟨w2.heap.size, 0, none⟩ = false := (by first | exact (f_w7 _ _ (by omega)).trans (by go_simp) | go_simp)
  have k2_1_w7 : w7.cell? ⟨w2.heap.size, 1, none⟩ = some (.int .i64 (c.hi)) := (by first | exact (c_w7 _ _ (by omega)).trans (by go_simp) | go_simp)
  have l2_1_w7 : w7.frozen? ⟨w2.heap.size, 1, none⟩ = false := (by first | exact (f_w7 _ _ (by omega)).trans (by go_simp) | go_simp)
  have k3_0_w7 : w7.cell? ⟨w4.heap.size, 0, none⟩ = some (.int .i64 (h.lo)) := (by first | exact (c_w7 _ _ (by omega)).trans (by go_simp) | go_simp)
  have l3_0_w7 : w7.frozen? ⟨w4.heap.size, 0, none⟩ = false := (by first | exact (f_w7 _ _ (by omega)).trans (by go_simp) | go_simp)
  have k3_1_w7 : w7.cell? ⟨w4.heap.size, 1, none⟩ = some (.int .i64 (h.hi)) := (by first | exact (c_w7 _ _ (by omega)).trans (by go_simp) | go_simp)
  have l3_1_w7 : w7.frozen? ⟨w4.heap.size, 1, none⟩ = false := (by first | exact (f_w7 _ _ (by omega)).trans (by go_simp) | go_simp)
  have k4_0_w7 : w7.cell? ⟨w6.heap.size, 0, none⟩ = some (.int .i64 (f.lo)) := (by first | exact (c_w7 _ _ (by omega)).trans (by go_simp) | go_simp)
  have l4_0_w7 : w7.frozen? ⟨w6.heap.size, 0, none⟩ = false := (by first | exact (f_w7 _ _ (by omega)).trans (by go_simp) | go_simp)
  have k4_1_w7 : w7.cell? ⟨w6.heap.size, 1, none⟩ = some (.int .i64 (f.hi)) := (by first | exact (c_w7 _ _ (by omega)).trans (by go_simp) | go_simp)
  have l4_1_w7 : w7.frozen? ⟨w6.heap.size, 1, none⟩ = false := (by first | exact (f_w7 _ _ (by omega)).trans (by go_simp) | go_simp)
  have k5_0_w7 : w7.cell? ⟨w6.heap.size + 1, 0, none⟩ = some (.int .i64 (g.lo)) := (by first | exact (c_w7 _ _ (by omega)).trans (by go_simp) | go_simp)
  have l5_0_w7 : w7.frozen? ⟨w6.heap.size + 1, 0, none⟩ = false := (by first | exact (f_w7 _ _ (by omega)).trans (by go_simp) | go_simp)
  have k5_1_w7 : w7.cell? ⟨w6.heap.size + 1, 1, none⟩ = some (.int .i64 (g.hi)) := (by first | exact (c_w7 _ _ (by omega)).trans (by go_simp) | go_simp)
  have l5_1_w7 : w7.frozen? ⟨w6.heap.size + 1, 1, none⟩ = false := (by first | exact (f_w7 _ _ (by omega)).trans (by go_simp) | go_simp)
  clear c_w7 f_w7
  go_wp2_with fail
  refine wp_region_bl2 20 (fun w' => w'.cell? ⟨w1.heap.size, 0, none⟩ = some (.int .i64 (s.lo)) ∧ w'.cell? ⟨w1.heap.size, 1, none⟩ = some (.int .i64 (s.hi)) ∧ w'.cell? ⟨w2.heap.size, 0, none⟩ = some (.int .i64 (c.lo)) ∧ w'.cell? ⟨w2.heap.size, 1, none⟩ = some (.int .i64 (c.hi)) ∧ w'.cell? ⟨w4.heap.size, 0, none⟩ = some (.int .i64 (h.lo)) ∧ w'.cell? ⟨w4.heap.size, 1, none⟩ = some (.int .i64 (h.hi)) ∧ w'.cell? ⟨w6.heap.size, 0, none⟩ = some (.int .i64 (f.lo)) ∧ w'.cell? ⟨w6.heap.size, 1, none⟩ = some (.int .i64 (f.hi)) ∧ w'.cell? ⟨w6.heap.size + 1, 0, none⟩ = some (.int .i64 (g.lo)) ∧ w'.cell? ⟨w6.heap.size + 1, 1, none⟩ = some (.int .i64 (g.hi)) ∧ w'.cell? ⟨w7.heap.size, 0, none⟩ = some (.int .i64 (p8.lo)) ∧ w'.cell? ⟨w7.heap.size, 1, none⟩ = some (.int .i64 (p8.hi))) (by kernel_rfl) (by kernel_rfl) (by rfl) (fun w' hw' => ?_) (fun hS => ?_)
  focus exact ⟨(hw'.cell (p := ⟨w1.heap.size, 0, none⟩) (by first | omega | (simp; done) | (simp; omega))).trans (by go_simp), (hw'.cell (p := ⟨w1.heap.size, 1, none⟩) (by first | omega | (simp; done) | (simp; omega))).trans (by go_simp), (hw'.cell (p := ⟨w2.heap.size, 0, none⟩) (by first | omega | (simp; done) | (simp; omega))).trans (by go_simp), (hw'.cell (p := ⟨w2.heap.size, 1, none⟩) (by first | omega | (simp; done) | (simp; omega))).trans (by go_simp), (hw'.cell (p := ⟨w4.heap.size, 0, none⟩) (by first | omega | (simp; done) | (simp; omega))).trans (by go_simp), (hw'.cell (p := ⟨w4.heap.size, 1, none⟩) (by first | omega | (simp; done) | (simp; omega))).trans (by go_simp), (hw'.cell (p := ⟨w6.heap.size, 0, none⟩) (by first | omega | (simp; done) | (simp; omega))).trans (by go_simp), (hw'.cell (p := ⟨w6.heap.size, 1, none⟩) (by first | omega | (simp; done) | (simp; omega))).trans (by go_simp), (hw'.cell (p := ⟨w6.heap.size + 1, 0, none⟩) (by first | omega | (simp; done) | (simp; omega))).trans (by go_simp), (hw'.cell (p := ⟨w6.heap.size + 1, 1, none⟩) (by first | omega | (simp; done) | (simp; omega))).trans (by go_simp), (hw'.cell (p := ⟨w7.heap.size, 0, none⟩) (by first | omega | (simp; done) | (simp; omega))).trans (by go_simp), (hw'.cell (p := ⟨w7.heap.size, 1, none⟩) (by first | omega | (simp; done) | (simp; omega))).trans (by go_simp)⟩
  have HS := Lib.hid hS; clear hS
  simp only [List.take_succ_cons, List.take_zero, List.drop_succ_cons, List.drop_zero]
  repeat (first | (refine wpBl_op ?_ ?_ (fun K hK => ?_); (focus rfl); (focus rfl); apply Exists.intro; refine ⟨fun w' hw' => ?_, ?_⟩; (focus (first | (go_simp; first | (go_at_call 125; exact sMul_any _ _ _ _ _ (by omega) (by omega) (by omega) (by omega) (by omega) (by omega) (by omega) (by omega)) | (go_at_call 126; exact sSub_any _ _ _ _ _ (by omega) (by omega) (by omega) (by omega) (by omega) (by omega) (by omega) (by omega)) | (go_at_call 127; exact sAdd_any _ _ _ _ _ (by omega) (by omega) (by omega) (by omega) (by omega) (by omega) (by omega) (by omega))) | (obtain ⟨kr0, kr1, kr2, kr3, kr4, kr5, kr6, kr7, kr8, kr9, kr10, kr11⟩ := HS.out w' hw'; go_simp; rfl))); go_simp; refine hK _ ?_; clear hK K) | (refine wpBl_mk ?_ ?_ (fun K hK => ⟨fun g => .pointer (some ⟨g, 0, none⟩), ?_⟩); (focus rfl); (focus rfl); apply Exists.intro; refine ⟨fun w' => ?_, ?_⟩; (focus (go_simp; rfl)); go_simp; refine hK _ _ _ ?_; clear hK K) | (refine wpBl_no ?_ ?_ (fun K hK => ?_); (focus rfl); (focus rfl); go_simp; refine hK _ ?_; clear hK K))
  refine wpBl_end (fun w8 b_w8 => TailW_nil ?_)
  obtain ⟨c_w8, f_w8, z_w8⟩ := bfacts b_w8 (by first | (simp; rfl) | rfl)
  have y0_w8 : w.heap.size + 1 < w8.heap.size := (by omega)
  have yb0_w8 : w.heap.size < w8.heap.size := (by omega)
  have k0_0_w8 : w8.cell? ⟨w.heap.size + 1, 0, none⟩ = some (.int .i64 (0)) := (by first | exact (c_w8 _ _ (by omega)).trans (by go_simp) | go_simp)
  have l0_0_w8 : w8.frozen? ⟨w.heap.size + 1, 0, none⟩ = false := (by first | exact (f_w8 _ _ (by omega)).trans (by go_simp) | go_simp)
  have k0_1_w8 : w8.cell? ⟨w.heap.size + 1, 1, none⟩ = some (.int .i64 (0)) := (by first | exact (c_w8 _ _ (by omega)).trans (by go_simp) | go_simp)
  have l0_1_w8 : w8.frozen? ⟨w.heap.size + 1, 1, none⟩ = false := (by first | exact (f_w8 _ _ (by omega)).trans (by go_simp) | go_simp)
  have k0_2_w8 : w8.cell? ⟨w.heap.size + 1, 2, none⟩ = some (.int .i64 (0)) := (by first | exact (c_w8 _ _ (by omega)).trans (by go_simp) | go_simp)
  have l0_2_w8 : w8.frozen? ⟨w.heap.size + 1, 2, none⟩ = false := (by first | exact (f_w8 _ _ (by omega)).trans (by go_simp) | go_simp)
  have k0_3_w8 : w8.cell? ⟨w.heap.size + 1, 3, none⟩ = some (.int .i64 (0)) := (by first | exact (c_w8 _ _ (by omega)).trans (by go_simp) | go_simp)
  have l0_3_w8 : w8.frozen? ⟨w.heap.size + 1, 3, none⟩ = false := (by first | exact (f_w8 _ _ (by omega)).trans (by go_simp) | go_simp)
  have k0_4_w8 : w8.cell? ⟨w.heap.size + 1, 4, none⟩ = some (.int .i64 (0)) := (by first | exact (c_w8 _ _ (by omega)).trans (by go_simp) | go_simp)
  have l0_4_w8 : w8.frozen? ⟨w.heap.size + 1, 4, none⟩ = false := (by first | exact (f_w8 _ _ (by omega)).trans (by go_simp) | go_simp)
  have k0_5_w8 : w8.cell? ⟨w.heap.size + 1, 5, none⟩ = some (.int .i64 (0)) := (by first | exact (c_w8 _ _ (by omega)).trans (by go_simp) | go_simp)
  have l0_5_w8 : w8.frozen? ⟨w.heap.size + 1, 5, none⟩ = false := (by first | exact (f_w8 _ _ (by omega)).trans (by go_simp) | go_simp)
  clear c_w8 f_w8
  clear HS
  go_simp
  go_wp2
  exact bodyPost_ret (v := (.agg #[.int .i64 ((miI ⟨0, 0⟩ p7).lo), .int .i64 ((miI ⟨0, 0⟩ p7).hi), .int .i64 ((miI p9 p10).lo), .int .i64 ((miI p9 p10).hi), .int .i64 ((plI p11 p12).lo), .int .i64 ((plI p11 p12).hi)])) (by simp [results, Tryz.results88, go_sem, *]) rfl ⟨rfl, by (repeat' (first | with_reducible exact Below.refl _ _ | with_reducible refine Below.setCell ?_ ?_ _ | with_reducible refine Below.drew ?_ | with_reducible refine below_drewN ?_ _ | with_reducible refine Below.alloc ?_ ?_ _ | with_reducible refine below_step b_w8 ?_ ?_ | with_reducible refine below_step b_w7 ?_ ?_ | with_reducible refine below_step b_w6 ?_ ?_ | with_reducible refine below_step b_w5 ?_ ?_ | with_reducible refine below_step b_w4 ?_ ?_ | with_reducible refine below_step b_w3 ?_ ?_ | with_reducible refine below_step b_w2 ?_ ?_ | with_reducible refine below_step b_w1 ?_ ?_ | omega | (simp; done) | (simp; omega)))⟩
theorem sSun_any (lat lo hi m : Int) (w : World) (l0 : -324000 ≤ lat) (l1 : lat ≤ 324000) (a0 : -1000000000000 ≤ lo) (a1 : lo ≤ 1000000000000) (b0 : -1000000000000 ≤ hi) (b1 : hi ≤ 1000000000000) (m0 : 0 ≤ m) (m1 : m ≤ 1439) :
    Calls Tryz.prog 88 #[.int .i64 lat, (.agg #[.int .i64 (lo), .int .i64 (hi)]), .int .i64 m] w fun e w' => e = .returned (.agg #[.int .i64 ((suV lat lo hi m).x.lo), .int .i64 ((suV lat lo hi m).x.hi), .int .i64 ((suV lat lo hi m).y.lo), .int .i64 ((suV lat lo hi m).y.hi), .int .i64 ((suV lat lo hi m).z.lo), .int .i64 ((suV lat lo hi m).z.hi)]) ∧ Below w.heap.size w w' :=
  sSun_walk lat lo hi m w l0 l1 a0 a1 b0 b1 m0 m1 (srI lo hi) (srI (lo + 324000) (hi + 324000)) (siI ((m - 720) * 900)) (siI ((m - 720) * 900 + 324000)) (siI lat) (siI (lat + 324000))
    (muI (srI (lo + 324000) (hi + 324000)) (siI ((m - 720) * 900))) (flI lo hi m) (muI (srI lo hi) (siI (lat + 324000))) (muI (flI lo hi m) (siI lat)) (muI (srI lo hi) (siI lat)) (muI (flI lo hi m) (siI (lat + 324000)))
    rfl rfl rfl rfl rfl rfl rfl rfl rfl rfl rfl rfl rfl rfl rfl rfl
    (srI_bd _ _) (srI_bd _ _) (s_bd _) (s_bd _) (s_bd _) (s_bd _) (srs_bd _ _ _) (flI_bd _ _ _) (srs_bd _ _ _) (fls_bd _ _ _ _) (srs_bd _ _ _) (fls_bd _ _ _ _)


end Go.Proofs.YteooegliepbcnaaGreat
