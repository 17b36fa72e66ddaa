/- What the reference's functions on shadows at a minute return. -/
import Derived.Test.YteooegliepbcnaaGreatRS2
namespace Go.Proofs.YteooegliepbcnaaGreat
set_option linter.unusedVariables false
set_option linter.unusedSimpArgs false
set_option maxRecDepth 10000
open Go.RowKit


set_option maxHeartbeats 4000000 in
theorem sShadow_dark (lat az sl h dlo dhi m : Int) (l0 : -324000 ≤ lat) (l1 : lat ≤ 324000) (h0 : 1 ≤ h) (h1 : h ≤ 10000) (e0 : -1000000000000 ≤ dlo) (e1 : dlo ≤ 1000000000000) (e2 : -1000000000000 ≤ dhi) (e3 : dhi ≤ 1000000000000) (m0 : 0 ≤ m) (m1 : m ≤ 1439) (k : (¬ 0 < (suV lat dlo dhi m).z.lo) ∨ (¬ 0 < (paV az sl (suV lat dlo dhi m)).z.lo)) (g : Nat) (w : World) (hg : w.heap[g]? = some (.cells #[.int .i64 (toV (az - 324000) 0).x.lo, .int .i64 (toV (az - 324000) 0).x.hi, .int .i64 (toV (az - 324000) 0).y.lo, .int .i64 (toV (az - 324000) 0).y.hi, .int .i64 (toV (az - 324000) 0).z.lo, .int .i64 (toV (az - 324000) 0).z.hi, .int .i64 (toV az (sl + 324000)).x.lo, .int .i64 (toV az (sl + 324000)).x.hi, .int .i64 (toV az (sl + 324000)).y.lo, .int .i64 (toV az (sl + 324000)).y.hi, .int .i64 (toV az (sl + 324000)).z.lo, .int .i64 (toV az (sl + 324000)).z.hi, .int .i64 (toV az sl).x.lo, .int .i64 (toV az sl).x.hi, .int .i64 (toV az sl).y.lo, .int .i64 (toV az sl).y.hi, .int .i64 (toV az sl).z.lo, .int .i64 (toV az sl).z.hi] 102)) :
    Calls Tryz.prog 56 #[.agg #[.int .i64 lat, .int .i64 az, .int .i64 sl, .int .i64 h, .int .i64 dlo, .int .i64 dhi, .slice (some ⟨g, 0, none⟩) 3 3], .int .i64 m] w fun e w' => e = .returned (.tuple #[(.agg #[.int .i64 (0), .int .i64 (0), .int .i64 (0), .int .i64 (0)]), .bool false]) ∧ Below w.heap.size w w' := by
  have su := fun w => sSun_any lat dlo dhi m w l0 l1 e0 e1 e2 e3 m0 m1
  obtain ⟨a0, a1, a2, b0, b1, b2, c0, c1, c2⟩ := suV_bd lat dlo dhi m
  have pt := fun g w hg => sParts_any az sl (suV lat dlo dhi m) g w hg a0 a1 a2 b0 b1 b2 c0 c1 c2
  obtain ⟨p1, p2, p3, p4, p5, p6, p7, p8, p9⟩ := paV_bd' az sl a0 a1 a2 b0 b1 b2 c0 c1 c2
  generalize paV az sl (suV lat dlo dhi m) = p at pt k p1 p2 p3 p4 p5 p6 p7 p8 p9
  generalize suV lat dlo dhi m = v at su pt k
  generalize toV (az - 324000) 0 = u0 at pt hg
  generalize toV az (sl + 324000) = u1 at pt hg
  generalize toV az sl = u2 at pt hg
  have SU := Lib.hid su; have PT := Lib.hid pt; clear su pt a0 a1 a2 b0 b1 b2 c0 c1 c2
  have HG := Lib.hid hg; clear hg
  by_cases kv : 0 < v.z.lo
  · have kp : ¬ 0 < p.z.lo := by rcases k with k | k; exact absurd kv k; exact k
    clear k
    go_enter Tryz.func56, Tryz.ntmps56
    go_wp2_with fail
    refine (SU.out _).mono ?_
    rintro _ w1 ⟨rfl, b_w1⟩
    obtain ⟨c_w1, f_w1, z_w1⟩ := bfacts b_w1 (by first | (simp; rfl) | rfl)
    have y0_w1 : w.heap.size < w1.heap.size := (by omega)
    have y1_w1 : w.heap.size + 1 < w1.heap.size := (by omega)
    have k0_0_w1 : w1.cell? ⟨w.heap.size, 0, none⟩ = some (.int .i64 (lat)) := (by first | exact (c_w1 _ _ (by omega)).trans (by go_simp) | go_simp)
    have l0_0_w1 : w1.frozen? ⟨w.heap.size, 0, none⟩ = false := (by first | exact (f_w1 _ _ (by omega)).trans (by go_simp) | go_simp)
    have k0_1_w1 : w1.cell? ⟨w.heap.size, 1, none⟩ = some (.int .i64 (az)) := (by first | exact (c_w1 _ _ (by omega)).trans (by go_simp) | go_simp)
    have l0_1_w1 : w1.frozen? ⟨w.heap.size, 1, none⟩ = false := (by first | exact (f_w1 _ _ (by omega)).trans (by go_simp) | go_simp)
    have k0_2_w1 : w1.cell? ⟨w.heap.size, 2, none⟩ = some (.int .i64 (sl)) := (by first | exact (c_w1 _ _ (by omega)).trans (by go_simp) | go_simp)
    have l0_2_w1 : w1.frozen? ⟨w.heap.size, 2, none⟩ = false := (by first | exact (f_w1 _ _ (by omega)).trans (by go_simp) | go_simp)
    have k0_3_w1 : w1.cell? ⟨w.heap.size, 3, none⟩ = some (.int .i64 (h)) := (by first | exact (c_w1 _ _ (by omega)).trans (by go_simp) | go_simp)
    have l0_3_w1 : w1.frozen? ⟨w.heap.size, 3, none⟩ = false := (by first | exact (f_w1 _ _ (by omega)).trans (by go_simp) | go_simp)
    have k0_4_w1 : w1.cell? ⟨w.heap.size, 4, none⟩ = some (.int .i64 (dlo)) := (by first | exact (c_w1 _ _ (by omega)).trans (by go_simp) | go_simp)
    have l0_4_w1 : w1.frozen? ⟨w.heap.size, 4, none⟩ = false := (by first | exact (f_w1 _ _ (by omega)).trans (by go_simp) | go_simp)
    have k0_5_w1 : w1.cell? ⟨w.heap.size, 5, none⟩ = some (.int .i64 (dhi)) := (by first | exact (c_w1 _ _ (by omega)).trans (by go_simp) | go_simp)
    have l0_5_w1 : w1.frozen? ⟨w.heap.size, 5, none⟩ = false := (by first | exact (f_w1 _ _ (by omega)).trans (by go_simp) | go_simp)
    have k0_6_w1 : w1.cell? ⟨w.heap.size, 6, none⟩ = some (.slice (some ⟨g, 0, none⟩) 3 3) := (by first | exact (c_w1 _ _ (by omega)).trans (by go_simp) | go_simp)
    have l0_6_w1 : w1.frozen? ⟨w.heap.size, 6, none⟩ = false := (by first | exact (f_w1 _ _ (by omega)).trans (by go_simp) | go_simp)
    have k1_0_w1 : w1.cell? ⟨w.heap.size + 1, 0, none⟩ = some (.int .i64 (0)) := (by first | exact (c_w1 _ _ (by omega)).trans (by go_simp) | go_simp)
    have l1_0_w1 : w1.frozen? ⟨w.heap.size + 1, 0, none⟩ = false := (by first | exact (f_w1 _ _ (by omega)).trans (by go_simp) | go_simp)
    have k1_1_w1 : w1.cell? ⟨w.heap.size + 1, 1, none⟩ = some (.int .i64 (0)) := (by first | exact (c_w1 _ _ (by omega)).trans (by go_simp) | go_simp)
    have l1_1_w1 : w1.frozen? ⟨w.heap.size + 1, 1, none⟩ = false := (by first | exact (f_w1 _ _ (by omega)).trans (by go_simp) | go_simp)
    have k1_2_w1 : w1.cell? ⟨w.heap.size + 1, 2, none⟩ = some (.int .i64 (0)) := (by first | exact (c_w1 _ _ (by omega)).trans (by go_simp) | go_simp)
    have l1_2_w1 : w1.frozen? ⟨w.heap.size + 1, 2, none⟩ = false := (by first | exact (f_w1 _ _ (by omega)).trans (by go_simp) | go_simp)
    have k1_3_w1 : w1.cell? ⟨w.heap.size + 1, 3, none⟩ = some (.int .i64 (0)) := (by first | exact (c_w1 _ _ (by omega)).trans (by go_simp) | go_simp)
    have l1_3_w1 : w1.frozen? ⟨w.heap.size + 1, 3, none⟩ = false := (by first | exact (f_w1 _ _ (by omega)).trans (by go_simp) | go_simp)
    clear c_w1 f_w1
    have hg1 := Lib.hid (heap_alloc (heap_below (heap_alloc (heap_alloc HG.out)) b_w1) (o' := .cells #[.int .i64 v.x.lo, .int .i64 v.x.hi, .int .i64 v.y.lo, .int .i64 v.y.hi, .int .i64 v.z.lo, .int .i64 v.z.hi] 102))
    go_wp2_with fail
    refine (PT.out g _ hg1.out).mono ?_
    rintro _ w2 ⟨g', rfl, hq1, hq2, b_w2⟩
    obtain ⟨c_w2, f_w2, z_w2⟩ := bfacts b_w2 (by first | (simp; rfl) | rfl); have y0_w2 : w.heap.size < w2.heap.size := (by omega); have y1_w2 : w.heap.size + 1 < w2.heap.size := (by omega); have y2_w2 : w1.heap.size < w2.heap.size := (by omega); have k0_0_w2 : w2.cell? ⟨w.heap.size, 0, none⟩ = some (.int .i64 (lat)) := (by first | exact (c_w2 _ _ (by omega)).trans (by go_simp) | go_simp); have l0_0_w2 : w2.frozen? ⟨w.heap.size, 0, none⟩ = false := (by first | exact (f_w2 _ _ (by omega)).trans (by go_simp) | go_simp); have k0_1_w2 : w2.cell? ⟨w.heap.size, 1, none⟩ = some (.int .i64 (az)) := (by first | exact (c_w2 _ _ (by omega)).trans (by go_simp) | go_simp); have l0_1_w2 : w2.frozen? ⟨w.heap.size, 1, none⟩ = false := (by first | exact (f_w2 _ _ (by omega)).trans (by go_simp) | go_simp); have k0_2_w2 : w2.cell? ⟨w.heap.size, 2, none⟩ = some (.int .i64 (sl)) := (by first | exact (c_w2 _ _ (by omega)).trans (by go_simp) | go_simp); have l0_2_w2 : w2.frozen? ⟨w.heap.size, 2, none⟩ = false := (by first | exact (f_w2 _ _ (by omega)).trans (by go_simp) | go_simp); have k0_3_w2 : w2.cell? ⟨w.heap.size, 3, none⟩ = some (.int .i64 (h)) := (by first | exact (c_w2 _ _ (by omega)).trans (by go_simp) | go_simp); have l0_3_w2 : w2.frozen? ⟨w.heap.size, 3, none⟩ = false := (by first | exact (f_w2 _ _ (by omega)).trans (by go_simp) | go_simp); have k0_4_w2 : w2.cell? ⟨w.heap.size, 4, none⟩ = some (.int .i64 (dlo)) := (by first | exact (c_w2 _ _ (by omega)).trans (by go_simp) | go_simp); have l0_4_w2 : w2.frozen? ⟨w.heap.size, 4, none⟩ = false := (by first | exact (f_w2 _ _ (by omega)).trans (by go_simp) | go_simp); have k0_5_w2 : w2.cell? ⟨w.heap.size, 5, none⟩ = some (.int .i64 (dhi)) := (by first | exact (c_w2 _ _ (by omega)).trans (by go_simp) | go_simp); have l0_5_w2 : w2.frozen? ⟨w.heap.size, 5, none⟩ = false := (by first | exact (f_w2 _ _ (by omega)).trans (by go_simp) | go_simp); have k0_6_w2 : w2.cell? ⟨w.heap.size, 6, none⟩ = some (.slice (some ⟨g, 0, none⟩) 3 3) := (by first | exact (c_w2 _ _ (by omega)).trans (by go_simp) | go_simp); have l0_6_w2 : w2.frozen? ⟨w.heap.size, 6, none⟩ = false := (by first | exact (f_w2 _ _ (by omega)).trans (by go_simp) | go_simp); have k1_0_w2 : w2.cell? ⟨w.heap.size + 1, 0, none⟩ = some (.int .i64 (0)) := (by first | exact (c_w2 _ _ (by omega)).trans (by go_simp) | go_simp); have l1_0_w2 : w2.frozen? ⟨w.heap.size + 1, 0, none⟩ = false := (by first | exact (f_w2 _ _ (by omega)).trans (by go_simp) | go_simp); have k1_1_w2 : w2.cell? ⟨w.heap.size + 1, 1, none⟩ = some (.int .i64 (0)) := (by first | exact (c_w2 _ _ (by omega)).trans (by go_simp) | go_simp); have l1_1_w2 : w2.frozen? ⟨w.heap.size + 1, 1, none⟩ = false := (by first | exact (f_w2 _ _ (by omega)).trans (by go_simp) | go_simp); have k1_2_w2 : w2.cell? ⟨w.heap.size + 1, 2, none⟩ = some (.int .i64 (0)) := (by first | exact (c_w2 _ _ (by omega)).trans (by go_simp) | go_simp); have l1_2_w2 : w2.frozen? ⟨w.heap.size + 1, 2, none⟩ = false := (by first | exact (f_w2 _ _ (by omega)).trans (by go_simp) | go_simp); have k1_3_w2 : w2.cell? ⟨w.heap.size + 1, 3, none⟩ = some (.int .i64 (0)) := (by first | exact (c_w2 _ _ (by omega)).trans (by go_simp) | go_simp); have l1_3_w2 : w2.frozen? ⟨w.heap.size + 1, 3, none⟩ = false := (by first | exact (f_w2 _ _ (by omega)).trans (by go_simp) | go_simp); have k2_0_w2 : w2.cell? ⟨w1.heap.size, 0, none⟩ = some (.int .i64 (v.x.lo)) := (by first | exact (c_w2 _ _ (by omega)).trans (by go_simp) | go_simp); have l2_0_w2 : w2.frozen? ⟨w1.heap.size, 0, none⟩ = false := (by first | exact (f_w2 _ _ (by omega)).trans (by go_simp) | go_simp); have k2_1_w2 : w2.cell? ⟨w1.heap.size, 1, none⟩ = some (.int .i64 (v.x.hi)) := (by first | exact (c_w2 _ _ (by omega)).trans (by go_simp) | go_simp); have l2_1_w2 : w2.frozen? ⟨w1.heap.size, 1, none⟩ = false := (by first | exact (f_w2 _ _ (by omega)).trans (by go_simp) | go_simp); have k2_2_w2 : w2.cell? ⟨w1.heap.size, 2, none⟩ = some (.int .i64 (v.y.lo)) := (by first | exact (c_w2 _ _ (by omega)).trans (by go_simp) | go_simp); have l2_2_w2 : w2.frozen? ⟨w1.heap.size, 2, none⟩ = false := (by first | exact (f_w2 _ _ (by omega)).trans (by go_simp) | go_simp); have k2_3_w2 : w2.cell? ⟨w1.heap.size, 3, none⟩ = some (.int .i64 (v.y.hi)) := (by first | exact (c_w2 _ _ (by omega)).trans (by go_simp) | go_simp); have l2_3_w2 : w2.frozen? ⟨w1.heap.size, 3, none⟩ = false := (by first | exact (f_w2 _ _ (by omega)).trans (by go_simp) | go_simp); have k2_4_w2 : w2.cell? ⟨w1.heap.size, 4, none⟩ = some (.int .i64 (v.z.lo)) := (by first | exact (c_w2 _ _ (by omega)).trans (by go_simp) | go_simp); have l2_4_w2 : w2.frozen? ⟨w1.heap.size, 4, none⟩ = false := (by first | exact (f_w2 _ _ (by omega)).trans (by go_simp) | go_simp); have k2_5_w2 : w2.cell? ⟨w1.heap.size, 5, none⟩ = some (.int .i64 (v.z.hi)) := (by first | exact (c_w2 _ _ (by omega)).trans (by go_simp) | go_simp); have l2_5_w2 : w2.frozen? ⟨w1.heap.size, 5, none⟩ = false := (by first | exact (f_w2 _ _ (by omega)).trans (by go_simp) | go_simp); clear c_w2 f_w2
    have z_hq2 : g' < w2.heap.size := heap_lt hq2; have k0_hq2 : w2.cell? ⟨g', 0, none⟩ = some (.int .i64 (p.x.lo)) := ((blk_facts hq2).1 0).trans (by simp); have l0_hq2 : w2.frozen? ⟨g', 0, none⟩ = false := (blk_facts hq2).2.1 0; have k1_hq2 : w2.cell? ⟨g', 1, none⟩ = some (.int .i64 (p.x.hi)) := ((blk_facts hq2).1 1).trans (by simp); have l1_hq2 : w2.frozen? ⟨g', 1, none⟩ = false := (blk_facts hq2).2.1 1; have k2_hq2 : w2.cell? ⟨g', 2, none⟩ = some (.int .i64 (p.y.lo)) := ((blk_facts hq2).1 2).trans (by simp); have l2_hq2 : w2.frozen? ⟨g', 2, none⟩ = false := (blk_facts hq2).2.1 2; have k3_hq2 : w2.cell? ⟨g', 3, none⟩ = some (.int .i64 (p.y.hi)) := ((blk_facts hq2).1 3).trans (by simp); have l3_hq2 : w2.frozen? ⟨g', 3, none⟩ = false := (blk_facts hq2).2.1 3; have k4_hq2 : w2.cell? ⟨g', 4, none⟩ = some (.int .i64 (p.z.lo)) := ((blk_facts hq2).1 4).trans (by simp); have l4_hq2 : w2.frozen? ⟨g', 4, none⟩ = false := (blk_facts hq2).2.1 4; have k5_hq2 : w2.cell? ⟨g', 5, none⟩ = some (.int .i64 (p.z.hi)) := ((blk_facts hq2).1 5).trans (by simp); have l5_hq2 : w2.frozen? ⟨g', 5, none⟩ = false := (blk_facts hq2).2.1 5
    clear hq2
    go_wp2
    exact bodyPost_ret (v := .tuple #[(.agg #[.int .i64 (0), .int .i64 (0), .int .i64 (0), .int .i64 (0)]), .bool false]) (by simp [results, Tryz.results56, go_sem, *]) rfl ⟨rfl, by (repeat' (first | with_reducible exact Below.refl _ _ | with_reducible refine Below.setCell ?_ ?_ _ | with_reducible refine Below.drew ?_ | with_reducible refine below_drewN ?_ _ | with_reducible refine Below.alloc ?_ ?_ _ | with_reducible refine below_step b_w2 ?_ ?_ | with_reducible refine below_step b_w1 ?_ ?_ | omega | (simp; done) | (simp; omega)))⟩
  · clear k
    go_enter Tryz.func56, Tryz.ntmps56
    go_wp2_with fail
    refine (SU.out _).mono ?_
    rintro _ w1 ⟨rfl, b_w1⟩
    obtain ⟨c_w1, f_w1, z_w1⟩ := bfacts b_w1 (by first | (simp; rfl) | rfl)
    have y0_w1 : w.heap.size < w1.heap.size := (by omega)
    have y1_w1 : w.heap.size + 1 < w1.heap.size := (by omega)
    have k0_0_w1 : w1.cell? ⟨w.heap.size, 0, none⟩ = some (.int .i64 (lat)) := (by first | exact (c_w1 _ _ (by omega)).trans (by go_simp) | go_simp)
    have l0_0_w1 : w1.frozen? ⟨w.heap.size, 0, none⟩ = false := (by first | exact (f_w1 _ _ (by omega)).trans (by go_simp) | go_simp)
    have k0_1_w1 : w1.cell? ⟨w.heap.size, 1, none⟩ = some (.int .i64 (az)) := (by first | exact (c_w1 _ _ (by omega)).trans (by go_simp) | go_simp)
    have l0_1_w1 : w1.frozen? ⟨w.heap.size, 1, none⟩ = false := (by first | exact (f_w1 _ _ (by omega)).trans (by go_simp) | go_simp)
    have k0_2_w1 : w1.cell? ⟨w.heap.size, 2, none⟩ = some (.int .i64 (sl)) := (by first | exact (c_w1 _ _ (by omega)).trans (by go_simp) | go_simp)
    have l0_2_w1 : w1.frozen? ⟨w.heap.size, 2, none⟩ = false := (by first | exact (f_w1 _ _ (by omega)).trans (by go_simp) | go_simp)
    have k0_3_w1 : w1.cell? ⟨w.heap.size, 3, none⟩ = some (.int .i64 (h)) := (by first | exact (c_w1 _ _ (by omega)).trans (by go_simp) | go_simp)
    have l0_3_w1 : w1.frozen? ⟨w.heap.size, 3, none⟩ = false := (by first | exact (f_w1 _ _ (by omega)).trans (by go_simp) | go_simp)
    have k0_4_w1 : w1.cell? ⟨w.heap.size, 4, none⟩ = some (.int .i64 (dlo)) := (by first | exact (c_w1 _ _ (by omega)).trans (by go_simp) | go_simp)
    have l0_4_w1 : w1.frozen? ⟨w.heap.size, 4, none⟩ = false := (by first | exact (f_w1 _ _ (by omega)).trans (by go_simp) | go_simp)
    have k0_5_w1 : w1.cell? ⟨w.heap.size, 5, none⟩ = some (.int .i64 (dhi)) := (by first | exact (c_w1 _ _ (by omega)).trans (by go_simp) | go_simp)
    have l0_5_w1 : w1.frozen? ⟨w.heap.size, 5, none⟩ = false := (by first | exact (f_w1 _ _ (by omega)).trans (by go_simp) | go_simp)
    have k0_6_w1 : w1.cell? ⟨w.heap.size, 6, none⟩ = some (.slice (some ⟨g, 0, none⟩) 3 3) := (by first | exact (c_w1 _ _ (by omega)).trans (by go_simp) | go_simp)
    have l0_6_w1 : w1.frozen? ⟨w.heap.size, 6, none⟩ = false := (by first | exact (f_w1 _ _ (by omega)).trans (by go_simp) | go_simp)
    have k1_0_w1 : w1.cell? ⟨w.heap.size + 1, 0, none⟩ = some (.int .i64 (0)) := (by first | exact (c_w1 _ _ (by omega)).trans (by go_simp) | go_simp)
    have l1_0_w1 : w1.frozen? ⟨w.heap.size + 1, 0, none⟩ = false := (by first | exact (f_w1 _ _ (by omega)).trans (by go_simp) | go_simp)
    have k1_1_w1 : w1.cell? ⟨w.heap.size + 1, 1, none⟩ = some (.int .i64 (0)) := (by first | exact (c_w1 _ _ (by omega)).trans (by go_simp) | go_simp)
    have l1_1_w1 : w1.frozen? ⟨w.heap.size + 1, 1, none⟩ = false := (by first | exact (f_w1 _ _ (by omega)).trans (by go_simp) | go_simp)
    have k1_2_w1 : w1.cell? ⟨w.heap.size + 1, 2, none⟩ = some (.int .i64 (0)) := (by first | exact (c_w1 _ _ (by omega)).trans (by go_simp) | go_simp)
    have l1_2_w1 : w1.frozen? ⟨w.heap.size + 1, 2, none⟩ = false := (by first | exact (f_w1 _ _ (by omega)).trans (by go_simp) | go_simp)
    have k1_3_w1 : w1.cell? ⟨w.heap.size + 1, 3, none⟩ = some (.int .i64 (0)) := (by first | exact (c_w1 _ _ (by omega)).trans (by go_simp) | go_simp)
    have l1_3_w1 : w1.frozen? ⟨w.heap.size + 1, 3, none⟩ = false := (by first | exact (f_w1 _ _ (by omega)).trans (by go_simp) | go_simp)
    clear c_w1 f_w1
    have hg1 := Lib.hid (heap_alloc (heap_below (heap_alloc (heap_alloc HG.out)) b_w1) (o' := .cells #[.int .i64 v.x.lo, .int .i64 v.x.hi, .int .i64 v.y.lo, .int .i64 v.y.hi, .int .i64 v.z.lo, .int .i64 v.z.hi] 102))
    go_wp2_with fail
    refine (PT.out g _ hg1.out).mono ?_
    rintro _ w2 ⟨g', rfl, hq1, hq2, b_w2⟩
    obtain ⟨c_w2, f_w2, z_w2⟩ := bfacts b_w2 (by first | (simp; rfl) | rfl); have y0_w2 : w.heap.size < w2.heap.size := (by omega); have y1_w2 : w.heap.size + 1 < w2.heap.size := (by omega); have y2_w2 : w1.heap.size < w2.heap.size := (by omega); have k0_0_w2 : w2.cell? ⟨w.heap.size, 0, none⟩ = some (.int .i64 (lat)) := (by first | exact (c_w2 _ _ (by omega)).trans (by go_simp) | go_simp); have l0_0_w2 : w2.frozen? ⟨w.heap.size, 0, none⟩ = false := (by first | exact (f_w2 _ _ (by omega)).trans (by go_simp) | go_simp); have k0_1_w2 : w2.cell? ⟨w.heap.size, 1, none⟩ = some (.int .i64 (az)) := (by first | exact (c_w2 _ _ (by omega)).trans (by go_simp) | go_simp); have l0_1_w2 : w2.frozen? ⟨w.heap.size, 1, none⟩ = false := (by first | exact (f_w2 _ _ (by omega)).trans (by go_simp) | go_simp); have k0_2_w2 : w2.cell? ⟨w.heap.size, 2, none⟩ = some (.int .i64 (sl)) := (by first | exact (c_w2 _ _ (by omega)).trans (by go_simp) | go_simp); have l0_2_w2 : w2.frozen? ⟨w.heap.size, 2, none⟩ = false := (by first | exact (f_w2 _ _ (by omega)).trans (by go_simp) | go_simp); have k0_3_w2 : w2.cell? ⟨w.heap.size, 3, none⟩ = some (.int .i64 (h)) := (by first | exact (c_w2 _ _ (by omega)).trans (by go_simp) | go_simp); have l0_3_w2 : w2.frozen? ⟨w.heap.size, 3, none⟩ = false := (by first | exact (f_w2 _ _ (by omega)).trans (by go_simp) | go_simp); have k0_4_w2 : w2.cell? ⟨w.heap.size, 4, none⟩ = some (.int .i64 (dlo)) := (by first | exact (c_w2 _ _ (by omega)).trans (by go_simp) | go_simp); have l0_4_w2 : w2.frozen? ⟨w.heap.size, 4, none⟩ = false := (by first | exact (f_w2 _ _ (by omega)).trans (by go_simp) | go_simp); have k0_5_w2 : w2.cell? ⟨w.heap.size, 5, none⟩ = some (.int .i64 (dhi)) := (by first | exact (c_w2 _ _ (by omega)).trans (by go_simp) | go_simp); have l0_5_w2 : w2.frozen? ⟨w.heap.size, 5, none⟩ = false := (by first | exact (f_w2 _ _ (by omega)).trans (by go_simp) | go_simp); have k0_6_w2 : w2.cell? ⟨w.heap.size, 6, none⟩ = some (.slice (some ⟨g, 0, none⟩) 3 3) := (by first | exact (c_w2 _ _ (by omega)).trans (by go_simp) | go_simp); have l0_6_w2 : w2.frozen? ⟨w.heap.size, 6, none⟩ = false := (by first | exact (f_w2 _ _ (by omega)).trans (by go_simp) | go_simp); have k1_0_w2 : w2.cell? ⟨w.heap.size + 1, 0, none⟩ = some (.int .i64 (0)) := (by first | exact (c_w2 _ _ (by omega)).trans (by go_simp) | go_simp); have l1_0_w2 : w2.frozen? ⟨w.heap.size + 1, 0, none⟩ = false := (by first | exact (f_w2 _ _ (by omega)).trans (by go_simp) | go_simp); have k1_1_w2 : w2.cell? ⟨w.heap.size + 1, 1, none⟩ = some (.int .i64 (0)) := (by first | exact (c_w2 _ _ (by omega)).trans (by go_simp) | go_simp); have l1_1_w2 : w2.frozen? ⟨w.heap.size + 1, 1, none⟩ = false := (by first | exact (f_w2 _ _ (by omega)).trans (by go_simp) | go_simp); have k1_2_w2 : w2.cell? ⟨w.heap.size + 1, 2, none⟩ = some (.int .i64 (0)) := (by first | exact (c_w2 _ _ (by omega)).trans (by go_simp) | go_simp); have l1_2_w2 : w2.frozen? ⟨w.heap.size + 1, 2, none⟩ = false := (by first | exact (f_w2 _ _ (by omega)).trans (by go_simp) | go_simp); have k1_3_w2 : w2.cell? ⟨w.heap.size + 1, 3, none⟩ = some (.int .i64 (0)) := (by first | exact (c_w2 _ _ (by omega)).trans (by go_simp) | go_simp); have l1_3_w2 : w2.frozen? ⟨w.heap.size + 1, 3, none⟩ = false := (by first | exact (f_w2 _ _ (by omega)).trans (by go_simp) | go_simp); have k2_0_w2 : w2.cell? ⟨w1.heap.size, 0, none⟩ = some (.int .i64 (v.x.lo)) := (by first | exact (c_w2 _ _ (by omega)).trans (by go_simp) | go_simp); have l2_0_w2 : w2.frozen? ⟨w1.heap.size, 0, none⟩ = false := (by first | exact (f_w2 _ _ (by omega)).trans (by go_simp) | go_simp); have k2_1_w2 : w2.cell? ⟨w1.heap.size, 1, none⟩ = some (.int .i64 (v.x.hi)) := (by first | exact (c_w2 _ _ (by omega)).trans (by go_simp) | go_simp); have l2_1_w2 : w2.frozen? ⟨w1.heap.size, 1, none⟩ = false := (by first | exact (f_w2 _ _ (by omega)).trans (by go_simp) | go_simp); have k2_2_w2 : w2.cell? ⟨w1.heap.size, 2, none⟩ = some (.int .i64 (v.y.lo)) := (by first | exact (c_w2 _ _ (by omega)).trans (by go_simp) | go_simp); have l2_2_w2 : w2.frozen? ⟨w1.heap.size, 2, none⟩ = false := (by first | exact (f_w2 _ _ (by omega)).trans (by go_simp) | go_simp); have k2_3_w2 : w2.cell? ⟨w1.heap.size, 3, none⟩ = some (.int .i64 (v.y.hi)) := (by first | exact (c_w2 _ _ (by omega)).trans (by go_simp) | go_simp); have l2_3_w2 : w2.frozen? ⟨w1.heap.size, 3, none⟩ = false := (by first | exact (f_w2 _ _ (by omega)).trans (by go_simp) | go_simp); have k2_4_w2 : w2.cell? ⟨w1.heap.size, 4, none⟩ = some (.int .i64 (v.z.lo)) := (by first | exact (c_w2 _ _ (by omega)).trans (by go_simp) | go_simp); have l2_4_w2 : w2.frozen? ⟨w1.heap.size, 4, none⟩ = false := (by first | exact (f_w2 _ _ (by omega)).trans (by go_simp) | go_simp); have k2_5_w2 : w2.cell? ⟨w1.heap.size, 5, none⟩ = some (.int .i64 (v.z.hi)) := (by first | exact (c_w2 _ _ (by omega)).trans (by go_simp) | go_simp); have l2_5_w2 : w2.frozen? ⟨w1.heap.size, 5, none⟩ = false := (by first | exact (f_w2 _ _ (by omega)).trans (by go_simp) | go_simp); clear c_w2 f_w2
    have z_hq2 : g' < w2.heap.size := heap_lt hq2; have k0_hq2 : w2.cell? ⟨g', 0, none⟩ = some (.int .i64 (p.x.lo)) := ((blk_facts hq2).1 0).trans (by simp); have l0_hq2 : w2.frozen? ⟨g', 0, none⟩ = false := (blk_facts hq2).2.1 0; have k1_hq2 : w2.cell? ⟨g', 1, none⟩ = some (.int .i64 (p.x.hi)) := ((blk_facts hq2).1 1).trans (by simp); have l1_hq2 : w2.frozen? ⟨g', 1, none⟩ = false := (blk_facts hq2).2.1 1; have k2_hq2 : w2.cell? ⟨g', 2, none⟩ = some (.int .i64 (p.y.lo)) := ((blk_facts hq2).1 2).trans (by simp); have l2_hq2 : w2.frozen? ⟨g', 2, none⟩ = false := (blk_facts hq2).2.1 2; have k3_hq2 : w2.cell? ⟨g', 3, none⟩ = some (.int .i64 (p.y.hi)) := ((blk_facts hq2).1 3).trans (by simp); have l3_hq2 : w2.frozen? ⟨g', 3, none⟩ = false := (blk_facts hq2).2.1 3; have k4_hq2 : w2.cell? ⟨g', 4, none⟩ = some (.int .i64 (p.z.lo)) := ((blk_facts hq2).1 4).trans (by simp); have l4_hq2 : w2.frozen? ⟨g', 4, none⟩ = false := (blk_facts hq2).2.1 4; have k5_hq2 : w2.cell? ⟨g', 5, none⟩ = some (.int .i64 (p.z.hi)) := ((blk_facts hq2).1 5).trans (by simp); have l5_hq2 : w2.frozen? ⟨g', 5, none⟩ = false := (blk_facts hq2).2.1 5
    clear hq2
    go_wp2
    exact bodyPost_ret (v := .tuple #[(.agg #[.int .i64 (0), .int .i64 (0), .int .i64 (0), .int .i64 (0)]), .bool false]) (by simp [results, Tryz.results56, go_sem, *]) rfl ⟨rfl, by (repeat' (first | with_reducible exact Below.refl _ _ | with_reducible refine Below.setCell ?_ ?_ _ | with_reducible refine Below.drew ?_ | with_reducible refine below_drewN ?_ _ | with_reducible refine Below.alloc ?_ ?_ _ | with_reducible refine below_step b_w2 ?_ ?_ | with_reducible refine below_step b_w1 ?_ ?_ | omega | (simp; done) | (simp; omega)))⟩
set_option maxHeartbeats 4000000 in
theorem sShadow_lit (lat az sl h dlo dhi m : Int) (l0 : -324000 ≤ lat) (l1 : lat ≤ 324000) (h0 : 1 ≤ h) (h1 : h ≤ 10000) (e0 : -1000000000000 ≤ dlo) (e1 : dlo ≤ 1000000000000) (e2 : -1000000000000 ≤ dhi) (e3 : dhi ≤ 1000000000000) (m0 : 0 ≤ m) (m1 : m ≤ 1439) (k : 0 < (suV lat dlo dhi m).z.lo ∧ 0 < (paV az sl (suV lat dlo dhi m)).z.lo) (g : Nat) (w : World) (hg : w.heap[g]? = some (.cells #[.int .i64 (toV (az - 324000) 0).x.lo, .int .i64 (toV (az - 324000) 0).x.hi, .int .i64 (toV (az - 324000) 0).y.lo, .int .i64 (toV (az - 324000) 0).y.hi, .int .i64 (toV (az - 324000) 0).z.lo, .int .i64 (toV (az - 324000) 0).z.hi, .int .i64 (toV az (sl + 324000)).x.lo, .int .i64 (toV az (sl + 324000)).x.hi, .int .i64 (toV az (sl + 324000)).y.lo, .int .i64 (toV az (sl + 324000)).y.hi, .int .i64 (toV az (sl + 324000)).z.lo, .int .i64 (toV az (sl + 324000)).z.hi, .int .i64 (toV az sl).x.lo, .int .i64 (toV az sl).x.hi, .int .i64 (toV az sl).y.lo, .int .i64 (toV az sl).y.hi, .int .i64 (toV az sl).z.lo, .int .i64 (toV az sl).z.hi] 102)) :
    Calls Tryz.prog 56 #[.agg #[.int .i64 lat, .int .i64 az, .int .i64 sl, .int .i64 h, .int .i64 dlo, .int .i64 dhi, .slice (some ⟨g, 0, none⟩) 3 3], .int .i64 m] w fun e w' => e = .returned (.tuple #[(.agg #[.int .i64 ((spP h (paV az sl (suV lat dlo dhi m))).x.lo), .int .i64 ((spP h (paV az sl (suV lat dlo dhi m))).x.hi), .int .i64 ((spP h (paV az sl (suV lat dlo dhi m))).y.lo), .int .i64 ((spP h (paV az sl (suV lat dlo dhi m))).y.hi)]), .bool (plB (spP h (paV az sl (suV lat dlo dhi m))))]) ∧ Below w.heap.size w w' := by
  have su := fun w => sSun_any lat dlo dhi m w l0 l1 e0 e1 e2 e3 m0 m1
  obtain ⟨a0, a1, a2, b0, b1, b2, c0, c1, c2⟩ := suV_bd lat dlo dhi m
  have pt := fun g w hg => sParts_any az sl (suV lat dlo dhi m) g w hg a0 a1 a2 b0 b1 b2 c0 c1 c2
  obtain ⟨p1, p2, p3, p4, p5, p6, p7, p8, p9⟩ := paV_bd' az sl a0 a1 a2 b0 b1 b2 c0 c1 c2
  generalize paV az sl (suV lat dlo dhi m) = p at pt k p1 p2 p3 p4 p5 p6 p7 p8 p9 ⊢
  generalize suV lat dlo dhi m = v at su pt k
  obtain ⟨kv, kp⟩ := k
  have pl := fun g cap w hg k0 k1 k2 k3 k4 k5 => sPlace_any h p g cap w hg h0 h1 p1 p2 p3 p4 p5 p6 kp p8 p9 k0 k1 k2 k3 k4 k5
  generalize spP h p = r at pl ⊢
  have PL := Lib.hid pl; clear pl
  generalize toV (az - 324000) 0 = u0 at pt hg
  generalize toV az (sl + 324000) = u1 at pt hg
  generalize toV az sl = u2 at pt hg
  have SU := Lib.hid su; have PT := Lib.hid pt; clear su pt a0 a1 a2 b0 b1 b2 c0 c1 c2
  have HG := Lib.hid hg; clear hg
  go_enter Tryz.func56, Tryz.ntmps56
  go_wp2_with fail
  refine (SU.out _).mono ?_
  rintro _ w1 ⟨rfl, b_w1⟩
  obtain ⟨c_w1, f_w1, z_w1⟩ := bfacts b_w1 (by first | (simp; rfl) | rfl)
  have y0_w1 : w.heap.size < w1.heap.size := (by omega)
  have y1_w1 : w.heap.size + 1 < w1.heap.size := (by omega)
  have k0_0_w1 : w1.cell? ⟨w.heap.size, 0, none⟩ = some (.int .i64 (lat)) := (by first | exact (c_w1 _ _ (by omega)).trans (by go_simp) | go_simp)
  have l0_0_w1 : w1.frozen? ⟨w.heap.size, 0, none⟩ = false := (by first | exact (f_w1 _ _ (by omega)).trans (by go_simp) | go_simp)
  have k0_1_w1 : w1.cell? ⟨w.heap.size, 1, none⟩ = some (.int .i64 (az)) := (by first | exact (c_w1 _ _ (by omega)).trans (by go_simp) | go_simp)
  have l0_1_w1 : w1.frozen? ⟨w.heap.size, 1, none⟩ = false := (by first | exact (f_w1 _ _ (by omega)).trans (by go_simp) | go_simp)
  have k0_2_w1 : w1.cell? ⟨w.heap.size, 2, none⟩ = some (.int .i64 (sl)) := (by first | exact (c_w1 _ _ (by omega)).trans (by go_simp) | go_simp)
  have l0_2_w1 : w1.frozen? ⟨w.heap.size, 2, none⟩ = false := (by first | exact (f_w1 _ _ (by omega)).trans (by go_simp) | go_simp)
  have k0_3_w1 : w1.cell? ⟨w.heap.size, 3, none⟩ = some (.int .i64 (h)) := (by first | exact (c_w1 _ _ (by omega)).trans (by go_simp) | go_simp)
  have l0_3_w1 : w1.frozen? ⟨w.heap.size, 3, none⟩ = false := (by first | exact (f_w1 _ _ (by omega)).trans (by go_simp) | go_simp)
  have k0_4_w1 : w1.cell? ⟨w.heap.size, 4, none⟩ = some (.int .i64 (dlo)) := (by first | exact (c_w1 _ _ (by omega)).trans (by go_simp) | go_simp)
  have l0_4_w1 : w1.frozen? ⟨w.heap.size, 4, none⟩ = false := (by first | exact (f_w1 _ _ (by omega)).trans (by go_simp) | go_simp)
  have k0_5_w1 : w1.cell? ⟨w.heap.size, 5, none⟩ = some (.int .i64 (dhi)) := (by first | exact (c_w1 _ _ (by omega)).trans (by go_simp) | go_simp)
  have l0_5_w1 : w1.frozen? ⟨w.heap.size, 5, none⟩ = false := (by first | exact (f_w1 _ _ (by omega)).trans (by go_simp) | go_simp)
  have k0_6_w1 : w1.cell? ⟨w.heap.size, 6, none⟩ = some (.slice (some ⟨g, 0, none⟩) 3 3) := (by first | exact (c_w1 _ _ (by omega)).trans (by go_simp) | go_simp)
  have l0_6_w1 : w1.frozen? ⟨w.heap.size, 6, none⟩ = false := (by first | exact (f_w1 _ _ (by omega)).trans (by go_simp) | go_simp)
  have k1_0_w1 : w1.cell? ⟨w.heap.size + 1, 0, none⟩ = some (.int .i64 (0)) := (by first | exact (c_w1 _ _ (by omega)).trans (by go_simp) | go_simp)
  have l1_0_w1 : w1.frozen? ⟨w.heap.size + 1, 0, none⟩ = false := (by first | exact (f_w1 _ _ (by omega)).trans (by go_simp) | go_simp)
  have k1_1_w1 : w1.cell? ⟨w.heap.size + 1, 1, none⟩ = some (.int .i64 (0)) := (by first | exact (c_w1 _ _ (by omega)).trans (by go_simp) | go_simp)
  have l1_1_w1 : w1.frozen? ⟨w.heap.size + 1, 1, none⟩ = false := (by first | exact (f_w1 _ _ (by omega)).trans (by go_simp) | go_simp)
  have k1_2_w1 : w1.cell? ⟨w.heap.size + 1, 2, none⟩ = some (.int .i64 (0)) := (by first | exact (c_w1 _ _ (by omega)).trans (by go_simp) | go_simp)
  have l1_2_w1 : w1.frozen? ⟨w.heap.size + 1, 2, none⟩ = false := (by first | exact (f_w1 _ _ (by omega)).trans (by go_simp) | go_simp)
  have k1_3_w1 : w1.cell? ⟨w.heap.size + 1, 3, none⟩ = some (.int .i64 (0)) := (by first | exact (c_w1 _ _ (by omega)).trans (by go_simp) | go_simp)
  have l1_3_w1 : w1.frozen? ⟨w.heap.size + 1, 3, none⟩ = false := (by first | exact (f_w1 _ _ (by omega)).trans (by go_simp) | go_simp)
  clear c_w1 f_w1
  have hg1 := Lib.hid (heap_alloc (heap_below (heap_alloc (heap_alloc HG.out)) b_w1) (o' := .cells #[.int .i64 v.x.lo, .int .i64 v.x.hi, .int .i64 v.y.lo, .int .i64 v.y.hi, .int .i64 v.z.lo, .int .i64 v.z.hi] 102))
  go_wp2_with fail
  refine (PT.out g _ hg1.out).mono ?_
  rintro _ w2 ⟨g', rfl, hq1, hq2, b_w2⟩
  obtain ⟨c_w2, f_w2, z_w2⟩ := bfacts b_w2 (by first | (simp; rfl) | rfl); have y0_w2 : w.heap.size < w2.heap.size := (by omega); have y1_w2 : w.heap.size + 1 < w2.heap.size := (by omega); have y2_w2 : w1.heap.size < w2.heap.size := (by omega); have k0_0_w2 : w2.cell? ⟨w.heap.size, 0, none⟩ = some (.int .i64 (lat)) := (by first | exact (c_w2 _ _ (by omega)).trans (by go_simp) | go_simp); have l0_0_w2 : w2.frozen? ⟨w.heap.size, 0, none⟩ = false := (by first | exact (f_w2 _ _ (by omega)).trans (by go_simp) | go_simp); have k0_1_w2 : w2.cell? ⟨w.heap.size, 1, none⟩ = some (.int .i64 (az)) := (by first | exact (c_w2 _ _ (by omega)).trans (by go_simp) | go_simp); have l0_1_w2 : w2.frozen? ⟨w.heap.size, 1, none⟩ = false := (by first | exact (f_w2 _ _ (by omega)).trans (by go_simp) | go_simp); have k0_2_w2 : w2.cell? ⟨w.heap.size, 2, none⟩ = some (.int .i64 (sl)) := (by first | exact (c_w2 _ _ (by omega)).trans (by go_simp) | go_simp); have l0_2_w2 : w2.frozen? ⟨w.heap.size, 2, none⟩ = false := (by first | exact (f_w2 _ _ (by omega)).trans (by go_simp) | go_simp); have k0_3_w2 : w2.cell? ⟨w.heap.size, 3, none⟩ = some (.int .i64 (h)) := (by first | exact (c_w2 _ _ (by omega)).trans (by go_simp) | go_simp); have l0_3_w2 : w2.frozen? ⟨w.heap.size, 3, none⟩ = false := (by first | exact (f_w2 _ _ (by omega)).trans (by go_simp) | go_simp); have k0_4_w2 : w2.cell? ⟨w.heap.size, 4, none⟩ = some (.int .i64 (dlo)) := (by first | exact (c_w2 _ _ (by omega)).trans (by go_simp) | go_simp); have l0_4_w2 : w2.frozen? ⟨w.heap.size, 4, none⟩ = false := (by first | exact (f_w2 _ _ (by omega)).trans (by go_simp) | go_simp); have k0_5_w2 : w2.cell? ⟨w.heap.size, 5, none⟩ = some (.int .i64 (dhi)) := (by first | exact (c_w2 _ _ (by omega)).trans (by go_simp) | go_simp); have l0_5_w2 : w2.frozen? ⟨w.heap.size, 5, none⟩ = false := (by first | exact (f_w2 _ _ (by omega)).trans (by go_simp) | go_simp); have k0_6_w2 : w2.cell? ⟨w.heap.size, 6, none⟩ = some (.slice (some ⟨g, 0, none⟩) 3 3) := (by first | exact (c_w2 _ _ (by omega)).trans (by go_simp) | go_simp); have l0_6_w2 : w2.frozen? ⟨w.heap.size, 6, none⟩ = false := (by first | exact (f_w2 _ _ (by omega)).trans (by go_simp) | go_simp); have k1_0_w2 : w2.cell? ⟨w.heap.size + 1, 0, none⟩ = some (.int .i64 (0)) := (by first | exact (c_w2 _ _ (by omega)).trans (by go_simp) | go_simp); have l1_0_w2 : w2.frozen? ⟨w.heap.size + 1, 0, none⟩ = false := (by first | exact (f_w2 _ _ (by omega)).trans (by go_simp) | go_simp); have k1_1_w2 : w2.cell? ⟨w.heap.size + 1, 1, none⟩ = some (.int .i64 (0)) := (by first | exact (c_w2 _ _ (by omega)).trans (by go_simp) | go_simp); have l1_1_w2 : w2.frozen? ⟨w.heap.size + 1, 1, none⟩ = false := (by first | exact (f_w2 _ _ (by omega)).trans (by go_simp) | go_simp); have k1_2_w2 : w2.cell? ⟨w.heap.size + 1, 2, none⟩ = some (.int .i64 (0)) := (by first | exact (c_w2 _ _ (by omega)).trans (by go_simp) | go_simp); have l1_2_w2 : w2.frozen? ⟨w.heap.size + 1, 2, none⟩ = false := (by first | exact (f_w2 _ _ (by omega)).trans (by go_simp) | go_simp); have k1_3_w2 : w2.cell? ⟨w.heap.size + 1, 3, none⟩ = some (.int .i64 (0)) := (by first | exact (c_w2 _ _ (by omega)).trans (by go_simp) | go_simp); have l1_3_w2 : w2.frozen? ⟨w.heap.size + 1, 3, none⟩ = false := (by first | exact (f_w2 _ _ (by omega)).trans (by go_simp) | go_simp); have k2_0_w2 : w2.cell? ⟨w1.heap.size, 0, none⟩ = some (.int .i64 (v.x.lo)) := (by first | exact (c_w2 _ _ (by omega)).trans (by go_simp) | go_simp); have l2_0_w2 : w2.frozen? ⟨w1.heap.size, 0, none⟩ = false := (by first | exact (f_w2 _ _ (by omega)).trans (by go_simp) | go_simp); have k2_1_w2 : w2.cell? ⟨w1.heap.size, 1, none⟩ = some (.int .i64 (v.x.hi)) := (by first | exact (c_w2 _ _ (by omega)).trans (by go_simp) | go_simp); have l2_1_w2 : w2.frozen? ⟨w1.heap.size, 1, none⟩ = false := (by first | exact (f_w2 _ _ (by omega)).trans (by go_simp) | go_simp); have k2_2_w2 : w2.cell? ⟨w1.heap.size, 2, none⟩ = some (.int .i64 (v.y.lo)) := (by first | exact (c_w2 _ _ (by omega)).trans (by go_simp) | go_simp); have l2_2_w2 : w2.frozen? ⟨w1.heap.size, 2, none⟩ = false := (by first | exact (f_w2 _ _ (by omega)).trans (by go_simp) | go_simp); have k2_3_w2 : w2.cell? ⟨w1.heap.size, 3, none⟩ = some (.int .i64 (v.y.hi)) := (by first | exact (c_w2 _ _ (by omega)).trans (by go_simp) | go_simp); have l2_3_w2 : w2.frozen? ⟨w1.heap.size, 3, none⟩ = false := (by first | exact (f_w2 _ _ (by omega)).trans (by go_simp) | go_simp); have k2_4_w2 : w2.cell? ⟨w1.heap.size, 4, none⟩ = some (.int .i64 (v.z.lo)) := (by first | exact (c_w2 _ _ (by omega)).trans (by go_simp) | go_simp); have l2_4_w2 : w2.frozen? ⟨w1.heap.size, 4, none⟩ = false := (by first | exact (f_w2 _ _ (by omega)).trans (by go_simp) | go_simp); have k2_5_w2 : w2.cell? ⟨w1.heap.size, 5, none⟩ = some (.int .i64 (v.z.hi)) := (by first | exact (c_w2 _ _ (by omega)).trans (by go_simp) | go_simp); have l2_5_w2 : w2.frozen? ⟨w1.heap.size, 5, none⟩ = false := (by first | exact (f_w2 _ _ (by omega)).trans (by go_simp) | go_simp); clear c_w2 f_w2
  have z_hq2 : g' < w2.heap.size := heap_lt hq2; have k0_hq2 : w2.cell? ⟨g', 0, none⟩ = some (.int .i64 (p.x.lo)) := ((blk_facts hq2).1 0).trans (by simp); have l0_hq2 : w2.frozen? ⟨g', 0, none⟩ = false := (blk_facts hq2).2.1 0; have k1_hq2 : w2.cell? ⟨g', 1, none⟩ = some (.int .i64 (p.x.hi)) := ((blk_facts hq2).1 1).trans (by simp); have l1_hq2 : w2.frozen? ⟨g', 1, none⟩ = false := (blk_facts hq2).2.1 1; have k2_hq2 : w2.cell? ⟨g', 2, none⟩ = some (.int .i64 (p.y.lo)) := ((blk_facts hq2).1 2).trans (by simp); have l2_hq2 : w2.frozen? ⟨g', 2, none⟩ = false := (blk_facts hq2).2.1 2; have k3_hq2 : w2.cell? ⟨g', 3, none⟩ = some (.int .i64 (p.y.hi)) := ((blk_facts hq2).1 3).trans (by simp); have l3_hq2 : w2.frozen? ⟨g', 3, none⟩ = false := (blk_facts hq2).2.1 3; have k4_hq2 : w2.cell? ⟨g', 4, none⟩ = some (.int .i64 (p.z.lo)) := ((blk_facts hq2).1 4).trans (by simp); have l4_hq2 : w2.frozen? ⟨g', 4, none⟩ = false := (blk_facts hq2).2.1 4; have k5_hq2 : w2.cell? ⟨g', 5, none⟩ = some (.int .i64 (p.z.hi)) := ((blk_facts hq2).1 5).trans (by simp); have l5_hq2 : w2.frozen? ⟨g', 5, none⟩ = false := (blk_facts hq2).2.1 5
  clear hq2
  go_wp2_with fail
  refine (PL.out g' 3 _ (by omega) (by assumption) (by assumption) (by assumption) (by assumption) (by assumption) (by assumption)).mono ?_
  rintro _ w3 ⟨rfl, b_w3⟩
  obtain ⟨c_w3, f_w3, z_w3⟩ := bfacts b_w3 (by first | (simp; rfl) | rfl)
  have y0_w3 : w.heap.size < w3.heap.size := (by omega)
  have y1_w3 : w.heap.size + 1 < w3.heap.size := (by omega)
  have k0_0_w3 : w3.cell? ⟨w.heap.size, 0, none⟩ = some (.int .i64 (lat)) := (by first | exact (c_w3 _ _ (by omega)).trans (by go_simp) | go_simp)
  have l0_0_w3 : w3.frozen? ⟨w.heap.size, 0, none⟩ = false := (by first | exact (f_w3 _ _ (by omega)).trans (by go_simp) | go_simp)
  have k0_1_w3 : w3.cell? ⟨w.heap.size, 1, none⟩ = some (.int .i64 (az)) := (by first | exact (c_w3 _ _ (by omega)).trans (by go_simp) | go_simp)
  have l0_1_w3 : w3.frozen? ⟨w.heap.size, 1, none⟩ = false := (by first | exact (f_w3 _ _ (by omega)).trans (by go_simp) | go_simp)
  have k0_2_w3 : w3.cell? ⟨w.heap.size, 2, none⟩ = some (.int .i64 (sl)) := (by first | exact (c_w3 _ _ (by omega)).trans (by go_simp) | go_simp)
  have l0_2_w3 : w3.frozen? ⟨w.heap.size, 2, none⟩ = false := (by first | exact (f_w3 _ _ (by omega)).trans (by go_simp) | go_simp)
  have k0_3_w3 : w3.cell? ⟨w.heap.size, 3, none⟩ = some (.int .i64 (h)) := (by first | exact (c_w3 _ _ (by omega)).trans (by go_simp) | go_simp)
  have l0_3_w3 : w3.frozen? ⟨w.heap.size, 3, none⟩ = false := (by first | exact (f_w3 _ _ (by omega)).trans (by go_simp) | go_simp)
  have k0_4_w3 : w3.cell? ⟨w.heap.size, 4, none⟩ = some (.int .i64 (dlo)) := (by first | exact (c_w3 _ _ (by omega)).trans (by go_simp) | go_simp)
  have l0_4_w3 : w3.frozen? ⟨w.heap.size, 4, none⟩ = false := (by first | exact (f_w3 _ _ (by omega)).trans (by go_simp) | go_simp)
  have k0_5_w3 : w3.cell? ⟨w.heap.size, 5, none⟩ = some (.int .i64 (dhi)) := (by first | exact (c_w3 _ _ (by omega)).trans (by go_simp) | go_simp)
  have l0_5_w3 : w3.frozen? ⟨w.heap.size, 5, none⟩ = false := (by first | exact (f_w3 _ _ (by omega)).trans (by go_simp) | go_simp)
  have k0_6_w3 : w3.cell? ⟨w.heap.size, 6, none⟩ = some (.slice (some ⟨g, 0, none⟩) 3 3) := (by first | exact (c_w3 _ _ (by omega)).trans (by go_simp) | go_simp)
  have l0_6_w3 : w3.frozen? ⟨w.heap.size, 6, none⟩ = false := (by first | exact (f_w3 _ _ (by omega)).trans (by go_simp) | go_simp)
  have k1_0_w3 : w3.cell? ⟨w.heap.size + 1, 0, none⟩ = some (.int .i64 (0)) := (by first | exact (c_w3 _ _ (by omega)).trans (by go_simp) | go_simp)
  have l1_0_w3 : w3.frozen? ⟨w.heap.size + 1, 0, none⟩ = false := (by first | exact (f_w3 _ _ (by omega)).trans (by go_simp) | go_simp)
  have k1_1_w3 : w3.cell? ⟨w.heap.size + 1, 1, none⟩ = some (.int .i64 (0)) := (by first | exact (c_w3 _ _ (by omega)).trans (by go_simp) | go_simp)
  have l1_1_w3 : w3.frozen? ⟨w.heap.size + 1, 1, none⟩ = false := (by first | exact (f_w3 _ _ (by omega)).trans (by go_simp) | go_simp)
  have k1_2_w3 : w3.cell? ⟨w.heap.size + 1, 2, none⟩ = some (.int .i64 (0)) := (by first | exact (c_w3 _ _ (by omega)).trans (by go_simp) | go_simp)
  have l1_2_w3 : w3.frozen? ⟨w.heap.size + 1, 2, none⟩ = false := (by first | exact (f_w3 _ _ (by omega)).trans (by go_simp) | go_simp)
  have k1_3_w3 : w3.cell? ⟨w.heap.size + 1, 3, none⟩ = some (.int .i64 (0)) := (by first | exact (c_w3 _ _ (by omega)).trans (by go_simp) | go_simp)
  have l1_3_w3 : w3.frozen? ⟨w.heap.size + 1, 3, none⟩ = false := (by first | exact (f_w3 _ _ (by omega)).trans (by go_simp) | go_simp)
  clear c_w3 f_w3
  go_wp2_with fail
  refine wp_region_bl2 3 (fun w' => w'.cell? ⟨w3.heap.size, 0, none⟩ = some (.int .i64 (r.x.lo)) ∧ w'.cell? ⟨w3.heap.size, 1, none⟩ = some (.int .i64 (r.x.hi)) ∧ w'.cell? ⟨w3.heap.size, 2, none⟩ = some (.int .i64 (r.y.lo)) ∧ w'.cell? ⟨w3.heap.size, 3, none⟩ = some (.int .i64 (r.y.hi))) (by kernel_rfl) (by kernel_rfl) (by rfl) (fun w' hw' => ?_) (fun hS => ?_)
  focus exact ⟨(hw'.cell (p := ⟨w3.heap.size, 0, none⟩) (by first | omega | (simp; done) | (simp; omega))).trans (by go_simp), (hw'.cell (p := ⟨w3.heap.size, 1, none⟩) (by first | omega | (simp; done) | (simp; omega))).trans (by go_simp), (hw'.cell (p := ⟨w3.heap.size, 2, none⟩) (by first | omega | (simp; done) | (simp; omega))).trans (by go_simp), (hw'.cell (p := ⟨w3.heap.size, 3, none⟩) (by first | omega | (simp; done) | (simp; omega))).trans (by go_simp)⟩
  have HS := Lib.hid hS; clear hS
  simp only [List.take_succ_cons, List.take_zero, List.drop_succ_cons, List.drop_zero]
  repeat (first | (refine wpBl_op ?_ ?_ (fun K hK => ?_); (focus rfl); (focus rfl); apply Exists.intro; refine ⟨fun w' hw' => ?_, ?_⟩; (focus (first | (go_simp; first | (go_at_call 99; exact sIsPlace_any r _)) | (obtain ⟨kr0, kr1, kr2, kr3⟩ := HS.out w' hw'; go_simp; rfl))); go_simp; refine hK _ ?_; clear hK K) | (refine wpBl_mk ?_ ?_ (fun K hK => ⟨fun g => .pointer (some ⟨g, 0, none⟩), ?_⟩); (focus rfl); (focus rfl); apply Exists.intro; refine ⟨fun w' => ?_, ?_⟩; (focus (go_simp; rfl)); go_simp; refine hK _ _ _ ?_; clear hK K) | (refine wpBl_no ?_ ?_ (fun K hK => ?_); (focus rfl); (focus rfl); go_simp; refine hK _ ?_; clear hK K))
  refine wpBl_end (fun w4 b_w4 => TailW_nil ?_)
  obtain ⟨c_w4, f_w4, z_w4⟩ := bfacts b_w4 (by first | (simp; rfl) | rfl)
  have y0_w4 : w.heap.size + 1 < w4.heap.size := (by omega)
  have yb0_w4 : w.heap.size < w4.heap.size := (by omega)
  have k0_0_w4 : w4.cell? ⟨w.heap.size + 1, 0, none⟩ = some (.int .i64 (0)) := (by first | exact (c_w4 _ _ (by omega)).trans (by go_simp) | go_simp)
  have l0_0_w4 : w4.frozen? ⟨w.heap.size + 1, 0, none⟩ = false := (by first | exact (f_w4 _ _ (by omega)).trans (by go_simp) | go_simp)
  have k0_1_w4 : w4.cell? ⟨w.heap.size + 1, 1, none⟩ = some (.int .i64 (0)) := (by first | exact (c_w4 _ _ (by omega)).trans (by go_simp) | go_simp)
  have l0_1_w4 : w4.frozen? ⟨w.heap.size + 1, 1, none⟩ = false := (by first | exact (f_w4 _ _ (by omega)).trans (by go_simp) | go_simp)
  have k0_2_w4 : w4.cell? ⟨w.heap.size + 1, 2, none⟩ = some (.int .i64 (0)) := (by first | exact (c_w4 _ _ (by omega)).trans (by go_simp) | go_simp)
  have l0_2_w4 : w4.frozen? ⟨w.heap.size + 1, 2, none⟩ = false := (by first | exact (f_w4 _ _ (by omega)).trans (by go_simp) | go_simp)
  have k0_3_w4 : w4.cell? ⟨w.heap.size + 1, 3, none⟩ = some (.int .i64 (0)) := (by first | exact (c_w4 _ _ (by omega)).trans (by go_simp) | go_simp)
  have l0_3_w4 : w4.frozen? ⟨w.heap.size + 1, 3, none⟩ = false := (by first | exact (f_w4 _ _ (by omega)).trans (by go_simp) | go_simp)
  clear c_w4 f_w4
  clear HS
  go_simp
  go_wp2
  exact bodyPost_ret (v := .tuple #[(.agg #[.int .i64 (r.x.lo), .int .i64 (r.x.hi), .int .i64 (r.y.lo), .int .i64 (r.y.hi)]), .bool (plB r)]) (by simp [results, Tryz.results56, go_sem, *]) rfl ⟨rfl, by (repeat' (first | with_reducible exact Below.refl _ _ | with_reducible refine Below.setCell ?_ ?_ _ | with_reducible refine Below.drew ?_ | with_reducible refine below_drewN ?_ _ | with_reducible refine Below.alloc ?_ ?_ _ | with_reducible refine below_step b_w4 ?_ ?_ | with_reducible refine below_step b_w3 ?_ ?_ | with_reducible refine below_step b_w2 ?_ ?_ | with_reducible refine below_step b_w1 ?_ ?_ | omega | (simp; done) | (simp; omega)))⟩
theorem sShadow_no (lat az sl h dlo dhi m : Int) (l0 : -324000 ≤ lat) (l1 : lat ≤ 324000) (h0 : 1 ≤ h) (h1 : h ≤ 10000) (e0 : -1000000000000 ≤ dlo) (e1 : dlo ≤ 1000000000000) (e2 : -1000000000000 ≤ dhi) (e3 : dhi ≤ 1000000000000) (m0 : 0 ≤ m) (m1 : m ≤ 1439) (k : shB az sl h (suV lat dlo dhi m) = false) : ∃ r : P2, ∀ (g : Nat) (w : World), w.heap[g]? = some (.cells #[.int .i64 (toV (az - 324000) 0).x.lo, .int .i64 (toV (az - 324000) 0).x.hi, .int .i64 (toV (az - 324000) 0).y.lo, .int .i64 (toV (az - 324000) 0).y.hi, .int .i64 (toV (az - 324000) 0).z.lo, .int .i64 (toV (az - 324000) 0).z.hi, .int .i64 (toV az (sl + 324000)).x.lo, .int .i64 (toV az (sl + 324000)).x.hi, .int .i64 (toV az (sl + 324000)).y.lo, .int .i64 (toV az (sl + 324000)).y.hi, .int .i64 (toV az (sl + 324000)).z.lo, .int .i64 (toV az (sl + 324000)).z.hi, .int .i64 (toV az sl).x.lo, .int .i64 (toV az sl).x.hi, .int .i64 (toV az sl).y.lo, .int .i64 (toV az sl).y.hi, .int .i64 (toV az sl).z.lo, .int .i64 (toV az sl).z.hi] 102) →
    Calls Tryz.prog 56 #[.agg #[.int .i64 lat, .int .i64 az, .int .i64 sl, .int .i64 h, .int .i64 dlo, .int .i64 dhi, .slice (some ⟨g, 0, none⟩) 3 3], .int .i64 m] w fun e w' => e = .returned (.tuple #[(.agg #[.int .i64 (r.x.lo), .int .i64 (r.x.hi), .int .i64 (r.y.lo), .int .i64 (r.y.hi)]), .bool false]) ∧ Below w.heap.size w w' := by
  by_cases kv : 0 < (suV lat dlo dhi m).z.lo
  · by_cases kp : 0 < (paV az sl (suV lat dlo dhi m)).z.lo
    · have q : plB (spP h (paV az sl (suV lat dlo dhi m))) = false := by unfold shB at k; rw [decide_eq_true kv, decide_eq_true kp] at k; simpa using k
      refine ⟨spP h (paV az sl (suV lat dlo dhi m)), fun g w hg => ?_⟩
      have := sShadow_lit lat az sl h dlo dhi m l0 l1 h0 h1 e0 e1 e2 e3 m0 m1 ⟨kv, kp⟩ g w hg
      rw [q] at this
      exact this
    · exact ⟨⟨⟨0, 0⟩, ⟨0, 0⟩⟩, fun g w hg => sShadow_dark lat az sl h dlo dhi m l0 l1 h0 h1 e0 e1 e2 e3 m0 m1 (Or.inr kp) g w hg⟩
  · exact ⟨⟨⟨0, 0⟩, ⟨0, 0⟩⟩, fun g w hg => sShadow_dark lat az sl h dlo dhi m l0 l1 h0 h1 e0 e1 e2 e3 m0 m1 (Or.inl kv) g w hg⟩
theorem sShadow_yes (lat az sl h dlo dhi m : Int) (l0 : -324000 ≤ lat) (l1 : lat ≤ 324000) (h0 : 1 ≤ h) (h1 : h ≤ 10000) (e0 : -1000000000000 ≤ dlo) (e1 : dlo ≤ 1000000000000) (e2 : -1000000000000 ≤ dhi) (e3 : dhi ≤ 1000000000000) (m0 : 0 ≤ m) (m1 : m ≤ 1439) (k : shB az sl h (suV lat dlo dhi m) = true) (g : Nat) (w : World) (hg : w.heap[g]? = some (.cells #[.int .i64 (toV (az - 324000) 0).x.lo, .int .i64 (toV (az - 324000) 0).x.hi, .int .i64 (toV (az - 324000) 0).y.lo, .int .i64 (toV (az - 324000) 0).y.hi, .int .i64 (toV (az - 324000) 0).z.lo, .int .i64 (toV (az - 324000) 0).z.hi, .int .i64 (toV az (sl + 324000)).x.lo, .int .i64 (toV az (sl + 324000)).x.hi, .int .i64 (toV az (sl + 324000)).y.lo, .int .i64 (toV az (sl + 324000)).y.hi, .int .i64 (toV az (sl + 324000)).z.lo, .int .i64 (toV az (sl + 324000)).z.hi, .int .i64 (toV az sl).x.lo, .int .i64 (toV az sl).x.hi, .int .i64 (toV az sl).y.lo, .int .i64 (toV az sl).y.hi, .int .i64 (toV az sl).z.lo, .int .i64 (toV az sl).z.hi] 102)) :
    Calls Tryz.prog 56 #[.agg #[.int .i64 lat, .int .i64 az, .int .i64 sl, .int .i64 h, .int .i64 dlo, .int .i64 dhi, .slice (some ⟨g, 0, none⟩) 3 3], .int .i64 m] w fun e w' => e = .returned (.tuple #[(.agg #[.int .i64 ((spP h (paV az sl (suV lat dlo dhi m))).x.lo), .int .i64 ((spP h (paV az sl (suV lat dlo dhi m))).x.hi), .int .i64 ((spP h (paV az sl (suV lat dlo dhi m))).y.lo), .int .i64 ((spP h (paV az sl (suV lat dlo dhi m))).y.hi)]), .bool true]) ∧ Below w.heap.size w w' := by
  obtain ⟨kv, kp, q⟩ : 0 < (suV lat dlo dhi m).z.lo ∧ 0 < (paV az sl (suV lat dlo dhi m)).z.lo ∧ plB (spP h (paV az sl (suV lat dlo dhi m))) = true := by unfold shB at k; simpa [Bool.and_eq_true] using k
  have := sShadow_lit lat az sl h dlo dhi m l0 l1 h0 h1 e0 e1 e2 e3 m0 m1 ⟨kv, kp⟩ g w hg
  rw [q] at this
  exact this

set_option maxHeartbeats 4000000 in
theorem sShadowAt_err (lat az sl h n m c : Int) (w : World) (hc : c ≠ 0) (k : dcM (dlB lat az sl h) (dayB n && inB m 0 1439) = c) :
    Calls Tryz.prog 18 #[(.agg #[.int .i64 (lat), .int .i64 (az), .int .i64 (sl), .int .i64 (h)]), .int .i64 n, .int .i64 m] w fun e w' => e = .returned (.tuple #[(.agg #[.int .i64 (0), .int .i64 (0), .int .i64 (0), .int .i64 (0)]), .int .i64 c]) ∧ Below w.heap.size w w' := by
  have co := fun w => sCode_any lat az sl h n w
  cases q : dayB n
  · rw [q] at k co
    rw [show dcM (dlB lat az sl h) (false && inB m 0 1439) = dcM (dlB lat az sl h) false from rfl] at k
    rw [k] at co
    have CO := Lib.hid co; clear co k
    go_enter Tryz.func18, Tryz.ntmps18
    go_wp2_with fail
    refine (CO.out _).mono ?_
    rintro _ w1 ⟨rfl, b_w1⟩
    obtain ⟨c_w1, f_w1, z_w1⟩ := bfacts b_w1 (by first | (simp; rfl) | rfl)
    have y0_w1 : w.heap.size + 1 < w1.heap.size := (by omega)
    have yb0_w1 : w.heap.size < w1.heap.size := (by omega)
    have k0_0_w1 : w1.cell? ⟨w.heap.size + 1, 0, none⟩ = some (.int .i64 (0)) := (by first | exact (c_w1 _ _ (by omega)).trans (by go_simp) | go_simp)
    have l0_0_w1 : w1.frozen? ⟨w.heap.size + 1, 0, none⟩ = false := (by first | exact (f_w1 _ _ (by omega)).trans (by go_simp) | go_simp)
    have k0_1_w1 : w1.cell? ⟨w.heap.size + 1, 1, none⟩ = some (.int .i64 (0)) := (by first | exact (c_w1 _ _ (by omega)).trans (by go_simp) | go_simp)
    have l0_1_w1 : w1.frozen? ⟨w.heap.size + 1, 1, none⟩ = false := (by first | exact (f_w1 _ _ (by omega)).trans (by go_simp) | go_simp)
    have k0_2_w1 : w1.cell? ⟨w.heap.size + 1, 2, none⟩ = some (.int .i64 (0)) := (by first | exact (c_w1 _ _ (by omega)).trans (by go_simp) | go_simp)
    have l0_2_w1 : w1.frozen? ⟨w.heap.size + 1, 2, none⟩ = false := (by first | exact (f_w1 _ _ (by omega)).trans (by go_simp) | go_simp)
    have k0_3_w1 : w1.cell? ⟨w.heap.size + 1, 3, none⟩ = some (.int .i64 (0)) := (by first | exact (c_w1 _ _ (by omega)).trans (by go_simp) | go_simp)
    have l0_3_w1 : w1.frozen? ⟨w.heap.size + 1, 3, none⟩ = false := (by first | exact (f_w1 _ _ (by omega)).trans (by go_simp) | go_simp)
    clear c_w1 f_w1
    go_wp2
    exact bodyPost_ret (v := .tuple #[(.agg #[.int .i64 (0), .int .i64 (0), .int .i64 (0), .int .i64 (0)]), .int .i64 c]) (by simp [results, Tryz.results18, go_sem, *]) rfl ⟨rfl, by (repeat' (first | with_reducible exact Below.refl _ _ | with_reducible refine Below.setCell ?_ ?_ _ | with_reducible refine Below.drew ?_ | with_reducible refine below_drewN ?_ _ | with_reducible refine Below.alloc ?_ ?_ _ | with_reducible refine below_step b_w1 ?_ ?_ | omega | (simp; done) | (simp; omega)))⟩
  · rw [q] at k co
    rw [Bool.true_and] at k
    cases d : dlB lat az sl h
    · rw [d] at k co
      have k' : c = 1 := k.symm
      subst k'
      have co' : ∀ w, Calls Tryz.prog 53 #[(.agg #[.int .i64 (lat), .int .i64 (az), .int .i64 (sl), .int .i64 (h)]), .int .i64 n] w fun e w' => e = .returned (.int .i64 1) ∧ Below w.heap.size w w' := co
      have CO := Lib.hid co'; clear co co' k
      go_enter Tryz.func18, Tryz.ntmps18
      go_wp2_with fail
      refine (CO.out _).mono ?_
      rintro _ w1 ⟨rfl, b_w1⟩
      obtain ⟨c_w1, f_w1, z_w1⟩ := bfacts b_w1 (by first | (simp; rfl) | rfl)
      have y0_w1 : w.heap.size + 1 < w1.heap.size := (by omega)
      have yb0_w1 : w.heap.size < w1.heap.size := (by omega)
      have k0_0_w1 : w1.cell? ⟨w.heap.size + 1, 0, none⟩ = some (.int .i64 (0)) := (by first | exact (c_w1 _ _ (by omega)).trans (by go_simp) | go_simp)
      have l0_0_w1 : w1.frozen? ⟨w.heap.size + 1, 0, none⟩ = false := (by first | exact (f_w1 _ _ (by omega)).trans (by go_simp) | go_simp)
      have k0_1_w1 : w1.cell? ⟨w.heap.size + 1, 1, none⟩ = some (.int .i64 (0)) := (by first | exact (c_w1 _ _ (by omega)).trans (by go_simp) | go_simp)
      have l0_1_w1 : w1.frozen? ⟨w.heap.size + 1, 1, none⟩ = false := (by first | exact (f_w1 _ _ (by omega)).trans (by go_simp) | go_simp)
      have k0_2_w1 : w1.cell? ⟨w.heap.size + 1, 2, none⟩ = some (.int .i64 (0)) := (by first | exact (c_w1 _ _ (by omega)).trans (by go_simp) | go_simp)
      have l0_2_w1 : w1.frozen? ⟨w.heap.size + 1, 2, none⟩ = false := (by first | exact (f_w1 _ _ (by omega)).trans (by go_simp) | go_simp)
      have k0_3_w1 : w1.cell? ⟨w.heap.size + 1, 3, none⟩ = some (.int .i64 (0)) := (by first | exact (c_w1 _ _ (by omega)).trans (by go_simp) | go_simp)
      have l0_3_w1 : w1.frozen? ⟨w.heap.size + 1, 3, none⟩ = false := (by first | exact (f_w1 _ _ (by omega)).trans (by go_simp) | go_simp)
      clear c_w1 f_w1
      go_wp2
      exact bodyPost_ret (v := .tuple #[(.agg #[.int .i64 (0), .int .i64 (0), .int .i64 (0), .int .i64 (0)]), .int .i64 1]) (by simp [results, Tryz.results18, go_sem, *]) rfl ⟨rfl, by (repeat' (first | with_reducible exact Below.refl _ _ | with_reducible refine Below.setCell ?_ ?_ _ | with_reducible refine Below.drew ?_ | with_reducible refine below_drewN ?_ _ | with_reducible refine Below.alloc ?_ ?_ _ | with_reducible refine below_step b_w1 ?_ ?_ | omega | (simp; done) | (simp; omega)))⟩
    · rw [d] at k co
      cases r : inB m 0 1439
      · rw [r] at k
        have k' : c = 2 := k.symm
        subst k'
        have co' : ∀ w, Calls Tryz.prog 53 #[(.agg #[.int .i64 (lat), .int .i64 (az), .int .i64 (sl), .int .i64 (h)]), .int .i64 n] w fun e w' => e = .returned (.int .i64 0) ∧ Below w.heap.size w w' := co
        have CO := Lib.hid co'; clear co co' k
        go_enter Tryz.func18, Tryz.ntmps18
        go_wp2_with fail
        refine (CO.out _).mono ?_
        rintro _ w1 ⟨rfl, b_w1⟩
        obtain ⟨c_w1, f_w1, z_w1⟩ := bfacts b_w1 (by first | (simp; rfl) | rfl)
        have y0_w1 : w.heap.size + 1 < w1.heap.size := (by omega)
        have yb0_w1 : w.heap.size < w1.heap.size := (by omega)
        have k0_0_w1 : w1.cell? ⟨w.heap.size + 1, 0, none⟩ = some (.int .i64 (0)) := (by first | exact (c_w1 _ _ (by omega)).trans (by go_simp) | go_simp)
        have l0_0_w1 : w1.frozen? ⟨w.heap.size + 1, 0, none⟩ = false := (by first | exact (f_w1 _ _ (by omega)).trans (by go_simp) | go_simp)
        have k0_1_w1 : w1.cell? ⟨w.heap.size + 1, 1, none⟩ = some (.int .i64 (0)) := (by first | exact (c_w1 _ _ (by omega)).trans (by go_simp) | go_simp)
        have l0_1_w1 : w1.frozen? ⟨w.heap.size + 1, 1, none⟩ = false := (by first | exact (f_w1 _ _ (by omega)).trans (by go_simp) | go_simp)
        have k0_2_w1 : w1.cell? ⟨w.heap.size + 1, 2, none⟩ = some (.int .i64 (0)) := (by first | exact (c_w1 _ _ (by omega)).trans (by go_simp) | go_simp)
        have l0_2_w1 : w1.frozen? ⟨w.heap.size + 1, 2, none⟩ = false := (by first | exact (f_w1 _ _ (by omega)).trans (by go_simp) | go_simp)
        have k0_3_w1 : w1.cell? ⟨w.heap.size + 1, 3, none⟩ = some (.int .i64 (0)) := (by first | exact (c_w1 _ _ (by omega)).trans (by go_simp) | go_simp)
        have l0_3_w1 : w1.frozen? ⟨w.heap.size + 1, 3, none⟩ = false := (by first | exact (f_w1 _ _ (by omega)).trans (by go_simp) | go_simp)
        clear c_w1 f_w1
        go_wp2_with (go_at_call 65; refine (sMinute_any _ _).mono ?_; rintro e w' ⟨rfl, rfl⟩)
        exact bodyPost_ret (v := .tuple #[(.agg #[.int .i64 (0), .int .i64 (0), .int .i64 (0), .int .i64 (0)]), .int .i64 2]) (by simp [results, Tryz.results18, go_sem, *]) rfl ⟨rfl, by (repeat' (first | with_reducible exact Below.refl _ _ | with_reducible refine Below.setCell ?_ ?_ _ | with_reducible refine Below.drew ?_ | with_reducible refine below_drewN ?_ _ | with_reducible refine Below.alloc ?_ ?_ _ | with_reducible refine below_step b_w1 ?_ ?_ | omega | (simp; done) | (simp; omega)))⟩
      · rw [r] at k
        exact absurd k.symm hc
set_option maxHeartbeats 4000000 in
theorem sShadowAt_no (lat az sl h n m : Int) (w : World) (d : dlB lat az sl h = true) (q : dayB n = true) (r : inB m 0 1439 = true) (k : shB az sl h (suV lat (deI n).lo (deI n).hi m) = false) :
    Calls Tryz.prog 18 #[(.agg #[.int .i64 (lat), .int .i64 (az), .int .i64 (sl), .int .i64 (h)]), .int .i64 n, .int .i64 m] w fun e w' => e = .returned (.tuple #[(.agg #[.int .i64 (0), .int .i64 (0), .int .i64 (0), .int .i64 (0)]), .int .i64 4]) ∧ Below w.heap.size w w' := by
  obtain ⟨l0, l1, z0, z1, y0, y1, h0, h1⟩ := dlB_t d
  obtain ⟨n0, n1⟩ := dayB_t q
  have m0 := inB_iff.1 r
  have dd := deI_bd n
  have co : ∀ w, Calls Tryz.prog 53 #[(.agg #[.int .i64 (lat), .int .i64 (az), .int .i64 (sl), .int .i64 (h)]), .int .i64 n] w fun e w' => e = .returned (.int .i64 0) ∧ Below w.heap.size w w' := fun w => by
    have := sCode_any lat az sl h n w
    rw [d, q] at this
    exact this
  have mk := fun w => sMakeD_any lat az sl h n w z0 z1 y0 y1 n0 n1
  obtain ⟨v, sh⟩ := sShadow_no lat az sl h (deI n).lo (deI n).hi m l0 l1 h0 h1 (by omega) (by omega) (by omega) (by omega) m0.1 m0.2 k
  generalize toV (az - 324000) 0 = u0 at mk sh
  generalize toV az (sl + 324000) = u1 at mk sh
  generalize toV az sl = u2 at mk sh
  have CO := Lib.hid co; have MK := Lib.hid mk; have SH := Lib.hid sh; clear co mk sh k d
  go_enter Tryz.func18, Tryz.ntmps18
  go_wp2_with fail
  refine (CO.out _).mono ?_
  rintro _ w1 ⟨rfl, b_w1⟩
  obtain ⟨c_w1, f_w1, z_w1⟩ := bfacts b_w1 (by first | (simp; rfl) | rfl)
  have y0_w1 : w.heap.size < w1.heap.size := (by omega)
  have y1_w1 : w.heap.size + 1 < w1.heap.size := (by omega)
  have k0_0_w1 : w1.cell? ⟨w.heap.size, 0, none⟩ = some (.int .i64 (lat)) := (by first | exact (c_w1 _ _ (by omega)).trans (by go_simp) | go_simp)
  have l0_0_w1 : w1.frozen? ⟨w.heap.size, 0, none⟩ = false := (by first | exact (f_w1 _ _ (by omega)).trans (by go_simp) | go_simp)
  have k0_1_w1 : w1.cell? ⟨w.heap.size, 1, none⟩ = some (.int .i64 (az)) := (by first | exact (c_w1 _ _ (by omega)).trans (by go_simp) | go_simp)
  have l0_1_w1 : w1.frozen? ⟨w.heap.size, 1, none⟩ = false := (by first | exact (f_w1 _ _ (by omega)).trans (by go_simp) | go_simp)
  have k0_2_w1 : w1.cell? ⟨w.heap.size, 2, none⟩ = some (.int .i64 (sl)) := (by first | exact (c_w1 _ _ (by omega)).trans (by go_simp) | go_simp)
  have l0_2_w1 : w1.frozen? ⟨w.heap.size, 2, none⟩ = false := (by first | exact (f_w1 _ _ (by omega)).trans (by go_simp) | go_simp)
  have k0_3_w1 : w1.cell? ⟨w.heap.size, 3, none⟩ = some (.int .i64 (h)) := (by first | exact (c_w1 _ _ (by omega)).trans (by go_simp) | go_simp)
  have l0_3_w1 : w1.frozen? ⟨w.heap.size, 3, none⟩ = false := (by first | exact (f_w1 _ _ (by omega)).trans (by go_simp) | go_simp)
  have k1_0_w1 : w1.cell? ⟨w.heap.size + 1, 0, none⟩ = some (.int .i64 (0)) := (by first | exact (c_w1 _ _ (by omega)).trans (by go_simp) | go_simp)
  have l1_0_w1 : w1.frozen? ⟨w.heap.size + 1, 0, none⟩ = false := (by first | exact (f_w1 _ _ (by omega)).trans (by go_simp) | go_simp)
  have k1_1_w1 : w1.cell? ⟨w.heap.size + 1, 1, none⟩ = some (.int .i64 (0)) := (by first | exact (c_w1 _ _ (by omega)).trans (by go_simp) | go_simp)
  have l1_1_w1 : w1.frozen? ⟨w.heap.size + 1, 1, none⟩ = false := (by first | exact (f_w1 _ _ (by omega)).trans (by go_simp) | go_simp)
  have k1_2_w1 : w1.cell? ⟨w.heap.size + 1, 2, none⟩ = some (.int .i64 (0)) := (by first | exact (c_w1 _ _ (by omega)).trans (by go_simp) | go_simp)
  have l1_2_w1 : w1.frozen? ⟨w.heap.size + 1, 2, none⟩ = false := (by first | exact (f_w1 _ _ (by omega)).trans (by go_simp) | go_simp)
  have k1_3_w1 : w1.cell? ⟨w.heap.size + 1, 3, none⟩ = some (.int .i64 (0)) := (by first | exact (c_w1 _ _ (by omega)).trans (by go_simp) | go_simp)
  have l1_3_w1 : w1.frozen? ⟨w.heap.size + 1, 3, none⟩ = false := (by first | exact (f_w1 _ _ (by omega)).trans (by go_simp) | go_simp)
  clear c_w1 f_w1
  go_wp2_with (go_at_call 65; refine (sMinute_any _ _).mono ?_; rintro e w' ⟨rfl, rfl⟩)
  refine (MK.out _).mono ?_
  rintro _ w2 ⟨g, rfl, hg1, hg2, b_w2⟩
  obtain ⟨c_w2, f_w2, z_w2⟩ := bfacts b_w2 (by first | (simp; rfl) | rfl); have y0_w2 : w.heap.size + 1 < w2.heap.size := (by omega); have yb0_w2 : w.heap.size < w2.heap.size := (by omega); have k0_0_w2 : w2.cell? ⟨w.heap.size + 1, 0, none⟩ = some (.int .i64 (0)) := (by first | exact (c_w2 _ _ (by omega)).trans (by go_simp) | go_simp); have l0_0_w2 : w2.frozen? ⟨w.heap.size + 1, 0, none⟩ = false := (by first | exact (f_w2 _ _ (by omega)).trans (by go_simp) | go_simp); have k0_1_w2 : w2.cell? ⟨w.heap.size + 1, 1, none⟩ = some (.int .i64 (0)) := (by first | exact (c_w2 _ _ (by omega)).trans (by go_simp) | go_simp); have l0_1_w2 : w2.frozen? ⟨w.heap.size + 1, 1, none⟩ = false := (by first | exact (f_w2 _ _ (by omega)).trans (by go_simp) | go_simp); have k0_2_w2 : w2.cell? ⟨w.heap.size + 1, 2, none⟩ = some (.int .i64 (0)) := (by first | exact (c_w2 _ _ (by omega)).trans (by go_simp) | go_simp); have l0_2_w2 : w2.frozen? ⟨w.heap.size + 1, 2, none⟩ = false := (by first | exact (f_w2 _ _ (by omega)).trans (by go_simp) | go_simp); have k0_3_w2 : w2.cell? ⟨w.heap.size + 1, 3, none⟩ = some (.int .i64 (0)) := (by first | exact (c_w2 _ _ (by omega)).trans (by go_simp) | go_simp); have l0_3_w2 : w2.frozen? ⟨w.heap.size + 1, 3, none⟩ = false := (by first | exact (f_w2 _ _ (by omega)).trans (by go_simp) | go_simp); clear c_w2 f_w2
  have HG := Lib.hid hg2; clear hg2
  go_wp2_with fail
  refine (SH.out g _ HG.out).mono ?_
  rintro _ w3 ⟨rfl, b_w3⟩
  obtain ⟨c_w3, f_w3, z_w3⟩ := bfacts b_w3 (by first | (simp; rfl) | rfl); have y0_w3 : w.heap.size + 1 < w3.heap.size := (by omega); have yb0_w3 : w.heap.size < w3.heap.size := (by omega); have k0_0_w3 : w3.cell? ⟨w.heap.size + 1, 0, none⟩ = some (.int .i64 (0)) := (by first | exact (c_w3 _ _ (by omega)).trans (by go_simp) | go_simp); have l0_0_w3 : w3.frozen? ⟨w.heap.size + 1, 0, none⟩ = false := (by first | exact (f_w3 _ _ (by omega)).trans (by go_simp) | go_simp); have k0_1_w3 : w3.cell? ⟨w.heap.size + 1, 1, none⟩ = some (.int .i64 (0)) := (by first | exact (c_w3 _ _ (by omega)).trans (by go_simp) | go_simp); have l0_1_w3 : w3.frozen? ⟨w.heap.size + 1, 1, none⟩ = false := (by first | exact (f_w3 _ _ (by omega)).trans (by go_simp) | go_simp); have k0_2_w3 : w3.cell? ⟨w.heap.size + 1, 2, none⟩ = some (.int .i64 (0)) := (by first | exact (c_w3 _ _ (by omega)).trans (by go_simp) | go_simp); have l0_2_w3 : w3.frozen? ⟨w.heap.size + 1, 2, none⟩ = false := (by first | exact (f_w3 _ _ (by omega)).trans (by go_simp) | go_simp); have k0_3_w3 : w3.cell? ⟨w.heap.size + 1, 3, none⟩ = some (.int .i64 (0)) := (by first | exact (c_w3 _ _ (by omega)).trans (by go_simp) | go_simp); have l0_3_w3 : w3.frozen? ⟨w.heap.size + 1, 3, none⟩ = false := (by first | exact (f_w3 _ _ (by omega)).trans (by go_simp) | go_simp); clear c_w3 f_w3
  go_wp2
  exact bodyPost_ret (v := .tuple #[(.agg #[.int .i64 (0), .int .i64 (0), .int .i64 (0), .int .i64 (0)]), .int .i64 4]) (by simp [results, Tryz.results18, go_sem, *]) rfl ⟨rfl, by (repeat' (first | with_reducible exact Below.refl _ _ | with_reducible refine Below.setCell ?_ ?_ _ | with_reducible refine Below.drew ?_ | with_reducible refine below_drewN ?_ _ | with_reducible refine Below.alloc ?_ ?_ _ | with_reducible refine below_step b_w3 ?_ ?_ | with_reducible refine below_step b_w2 ?_ ?_ | with_reducible refine below_step b_w1 ?_ ?_ | omega | (simp; done) | (simp; omega)))⟩
set_option maxHeartbeats 4000000 in
theorem sShadowAt_yes (lat az sl h n m : Int) (w : World) (d : dlB lat az sl h = true) (q : dayB n = true) (r : inB m 0 1439 = true) (k : shB az sl h (suV lat (deI n).lo (deI n).hi m) = true) :
    Calls Tryz.prog 18 #[(.agg #[.int .i64 (lat), .int .i64 (az), .int .i64 (sl), .int .i64 (h)]), .int .i64 n, .int .i64 m] w fun e w' => e = .returned (.tuple #[(.agg #[.int .i64 ((spP h (paV az sl (suV lat (deI n).lo (deI n).hi m))).x.lo), .int .i64 ((spP h (paV az sl (suV lat (deI n).lo (deI n).hi m))).x.hi), .int .i64 ((spP h (paV az sl (suV lat (deI n).lo (deI n).hi m))).y.lo), .int .i64 ((spP h (paV az sl (suV lat (deI n).lo (deI n).hi m))).y.hi)]), .int .i64 0]) ∧ Below w.heap.size w w' := by
  obtain ⟨l0, l1, z0, z1, y0, y1, h0, h1⟩ := dlB_t d
  obtain ⟨n0, n1⟩ := dayB_t q
  have m0 := inB_iff.1 r
  have dd := deI_bd n
  have co : ∀ w, Calls Tryz.prog 53 #[(.agg #[.int .i64 (lat), .int .i64 (az), .int .i64 (sl), .int .i64 (h)]), .int .i64 n] w fun e w' => e = .returned (.int .i64 0) ∧ Below w.heap.size w w' := fun w => by
    have := sCode_any lat az sl h n w
    rw [d, q] at this
    exact this
  have mk := fun w => sMakeD_any lat az sl h n w z0 z1 y0 y1 n0 n1
  have sh := fun g w hg => sShadow_yes lat az sl h (deI n).lo (deI n).hi m l0 l1 h0 h1 (by omega) (by omega) (by omega) (by omega) m0.1 m0.2 k g w hg
  generalize spP h (paV az sl (suV lat (deI n).lo (deI n).hi m)) = v at sh ⊢
  generalize toV (az - 324000) 0 = u0 at mk sh
  generalize toV az (sl + 324000) = u1 at mk sh
  generalize toV az sl = u2 at mk sh
  have CO := Lib.hid co; have MK := Lib.hid mk; have SH := Lib.hid sh; clear co mk sh k d
  go_enter Tryz.func18, Tryz.ntmps18
  go_wp2_with fail
  refine (CO.out _).mono ?_
  rintro _ w1 ⟨rfl, b_w1⟩
  obtain ⟨c_w1, f_w1, z_w1⟩ := bfacts b_w1 (by first | (simp; rfl) | rfl)
  have y0_w1 : w.heap.size < w1.heap.size := (by omega)
  have y1_w1 : w.heap.size + 1 < w1.heap.size := (by omega)
  have k0_0_w1 : w1.cell? ⟨w.heap.size, 0, none⟩ = some (.int .i64 (lat)) := (by first | exact (c_w1 _ _ (by omega)).trans (by go_simp) | go_simp)
  have l0_0_w1 : w1.frozen? ⟨w.heap.size, 0, none⟩ = false := (by first | exact (f_w1 _ _ (by omega)).trans (by go_simp) | go_simp)
  have k0_1_w1 : w1.cell? ⟨w.heap.size, 1, none⟩ = some (.int .i64 (az)) := (by first | exact (c_w1 _ _ (by omega)).trans (by go_simp) | go_simp)
  have l0_1_w1 : w1.frozen? ⟨w.heap.size, 1, none⟩ = false := (by first | exact (f_w1 _ _ (by omega)).trans (by go_simp) | go_simp)
  have k0_2_w1 : w1.cell? ⟨w.heap.size, 2, none⟩ = some (.int .i64 (sl)) := (by first | exact (c_w1 _ _ (by omega)).trans (by go_simp) | go_simp)
  have l0_2_w1 : w1.frozen? ⟨w.heap.size, 2, none⟩ = false := (by first | exact (f_w1 _ _ (by omega)).trans (by go_simp) | go_simp)
  have k0_3_w1 : w1.cell? ⟨w.heap.size, 3, none⟩ = some (.int .i64 (h)) := (by first | exact (c_w1 _ _ (by omega)).trans (by go_simp) | go_simp)
  have l0_3_w1 : w1.frozen? ⟨w.heap.size, 3, none⟩ = false := (by first | exact (f_w1 _ _ (by omega)).trans (by go_simp) | go_simp)
  have k1_0_w1 : w1.cell? ⟨w.heap.size + 1, 0, none⟩ = some (.int .i64 (0)) := (by first | exact (c_w1 _ _ (by omega)).trans (by go_simp) | go_simp)
  have l1_0_w1 : w1.frozen? ⟨w.heap.size + 1, 0, none⟩ = false := (by first | exact (f_w1 _ _ (by omega)).trans (by go_simp) | go_simp)
  have k1_1_w1 : w1.cell? ⟨w.heap.size + 1, 1, none⟩ = some (.int .i64 (0)) := (by first | exact (c_w1 _ _ (by omega)).trans (by go_simp) | go_simp)
  have l1_1_w1 : w1.frozen? ⟨w.heap.size + 1, 1, none⟩ = false := (by first | exact (f_w1 _ _ (by omega)).trans (by go_simp) | go_simp)
  have k1_2_w1 : w1.cell? ⟨w.heap.size + 1, 2, none⟩ = some (.int .i64 (0)) := (by first | exact (c_w1 _ _ (by omega)).trans (by go_simp) | go_simp)
  have l1_2_w1 : w1.frozen? ⟨w.heap.size + 1, 2, none⟩ = false := (by first | exact (f_w1 _ _ (by omega)).trans (by go_simp) | go_simp)
  have k1_3_w1 : w1.cell? ⟨w.heap.size + 1, 3, none⟩ = some (.int .i64 (0)) := (by first | exact (c_w1 _ _ (by omega)).trans (by go_simp) | go_simp)
  have l1_3_w1 : w1.frozen? ⟨w.heap.size + 1, 3, none⟩ = false := (by first | exact (f_w1 _ _ (by omega)).trans (by go_simp) | go_simp)
  clear c_w1 f_w1
  go_wp2_with (go_at_call 65; refine (sMinute_any _ _).mono ?_; rintro e w' ⟨rfl, rfl⟩)
  refine (MK.out _).mono ?_
  rintro _ w2 ⟨g, rfl, hg1, hg2, b_w2⟩
  obtain ⟨c_w2, f_w2, z_w2⟩ := bfacts b_w2 (by first | (simp; rfl) | rfl); have y0_w2 : w.heap.size + 1 < w2.heap.size := (by omega); have yb0_w2 : w.heap.size < w2.heap.size := (by omega); have k0_0_w2 : w2.cell? ⟨w.heap.size + 1, 0, none⟩ = some (.int .i64 (0)) := (by first | exact (c_w2 _ _ (by omega)).trans (by go_simp) | go_simp); have l0_0_w2 : w2.frozen? ⟨w.heap.size + 1, 0, none⟩ = false := (by first | exact (f_w2 _ _ (by omega)).trans (by go_simp) | go_simp); have k0_1_w2 : w2.cell? ⟨w.heap.size + 1, 1, none⟩ = some (.int .i64 (0)) := (by first | exact (c_w2 _ _ (by omega)).trans (by go_simp) | go_simp); have l0_1_w2 : w2.frozen? ⟨w.heap.size + 1, 1, none⟩ = false := (by first | exact (f_w2 _ _ (by omega)).trans (by go_simp) | go_simp); have k0_2_w2 : w2.cell? ⟨w.heap.size + 1, 2, none⟩ = some (.int .i64 (0)) := (by first | exact (c_w2 _ _ (by omega)).trans (by go_simp) | go_simp); have l0_2_w2 : w2.frozen? ⟨w.heap.size + 1, 2, none⟩ = false := (by first | exact (f_w2 _ _ (by omega)).trans (by go_simp) | go_simp); have k0_3_w2 : w2.cell? ⟨w.heap.size + 1, 3, none⟩ = some (.int .i64 (0)) := (by first | exact (c_w2 _ _ (by omega)).trans (by go_simp) | go_simp); have l0_3_w2 : w2.frozen? ⟨w.heap.size + 1, 3, none⟩ = false := (by first | exact (f_w2 _ _ (by omega)).trans (by go_simp) | go_simp); clear c_w2 f_w2
  have HG := Lib.hid hg2; clear hg2
  go_wp2_with fail
  refine (SH.out g _ HG.out).mono ?_
  rintro _ w3 ⟨rfl, b_w3⟩
  obtain ⟨c_w3, f_w3, z_w3⟩ := bfacts b_w3 (by first | (simp; rfl) | rfl); have y0_w3 : w.heap.size + 1 < w3.heap.size := (by omega); have yb0_w3 : w.heap.size < w3.heap.size := (by omega); have k0_0_w3 : w3.cell? ⟨w.heap.size + 1, 0, none⟩ = some (.int .i64 (0)) := (by first | exact (c_w3 _ _ (by omega)).trans (by go_simp) | go_simp); have l0_0_w3 : w3.frozen? ⟨w.heap.size + 1, 0, none⟩ = false := (by first | exact (f_w3 _ _ (by omega)).trans (by go_simp) | go_simp); have k0_1_w3 : w3.cell? ⟨w.heap.size + 1, 1, none⟩ = some (.int .i64 (0)) := (by first | exact (c_w3 _ _ (by omega)).trans (by go_simp) | go_simp); have l0_1_w3 : w3.frozen? ⟨w.heap.size + 1, 1, none⟩ = false := (by first | exact (f_w3 _ _ (by omega)).trans (by go_simp) | go_simp); have k0_2_w3 : w3.cell? ⟨w.heap.size + 1, 2, none⟩ = some (.int .i64 (0)) := (by first | exact (c_w3 _ _ (by omega)).trans (by go_simp) | go_simp); have l0_2_w3 : w3.frozen? ⟨w.heap.size + 1, 2, none⟩ = false := (by first | exact (f_w3 _ _ (by omega)).trans (by go_simp) | go_simp); have k0_3_w3 : w3.cell? ⟨w.heap.size + 1, 3, none⟩ = some (.int .i64 (0)) := (by first | exact (c_w3 _ _ (by omega)).trans (by go_simp) | go_simp); have l0_3_w3 : w3.frozen? ⟨w.heap.size + 1, 3, none⟩ = false := (by first | exact (f_w3 _ _ (by omega)).trans (by go_simp) | go_simp); clear c_w3 f_w3
  go_wp2
  exact bodyPost_ret (v := .tuple #[(.agg #[.int .i64 (v.x.lo), .int .i64 (v.x.hi), .int .i64 (v.y.lo), .int .i64 (v.y.hi)]), .int .i64 0]) (by simp [results, Tryz.results18, go_sem, *]) rfl ⟨rfl, by (repeat' (first | with_reducible exact Below.refl _ _ | with_reducible refine Below.setCell ?_ ?_ _ | with_reducible refine Below.drew ?_ | with_reducible refine below_drewN ?_ _ | with_reducible refine Below.alloc ?_ ?_ _ | with_reducible refine below_step b_w3 ?_ ?_ | with_reducible refine below_step b_w2 ?_ ?_ | with_reducible refine below_step b_w1 ?_ ?_ | omega | (simp; done) | (simp; omega)))⟩


end Go.Proofs.YteooegliepbcnaaGreat
