/- What the reference's ShadowSpeed returns. -/
import Derived.Test.YteooegliepbcnaaGreatRS3
import Derived.Test.YteooegliepbcnaaGreatMath6
namespace Go.Proofs.YteooegliepbcnaaGreat
set_option linter.unusedVariables false
set_option linter.unusedSimpArgs false
set_option maxRecDepth 10000
open Go.RowKit


set_option maxHeartbeats 1000000 in
theorem sMiddle_any (p : P2) (w : World) (x0 : -1000000 ≤ p.x.lo) (x1 : p.x.lo ≤ 1000000) (x2 : -1000000 ≤ p.x.hi) (x3 : p.x.hi ≤ 1000000) (y0 : -1000000 ≤ p.y.lo) (y1 : p.y.lo ≤ 1000000) (y2 : -1000000 ≤ p.y.hi) (y3 : p.y.hi ≤ 1000000) :
    Calls Tryz.prog 57 #[(.agg #[.int .i64 (p.x.lo), .int .i64 (p.x.hi), .int .i64 (p.y.lo), .int .i64 (p.y.hi)])] w fun e w' => e = .returned (.tuple #[.int .i64 (mdX p), .int .i64 (mdY p)]) ∧ Below w.heap.size w w' := by
  have e1 : IntKind.i64.wrap (p.x.lo + p.x.hi) = p.x.lo + p.x.hi := IntWalk.i64_in _ (by omega)
  have e2 : IntKind.i64.wrap (p.y.lo + p.y.hi) = p.y.lo + p.y.hi := IntWalk.i64_in _ (by omega)
  go_enter Tryz.func57, Tryz.ntmps57
  go_wp2_with fail
  refine wp_region_bl2 16 (fun w' => w'.cell? ⟨w.heap.size, 0, none⟩ = some (.int .i64 (p.x.lo)) ∧ w'.cell? ⟨w.heap.size, 1, none⟩ = some (.int .i64 (p.x.hi)) ∧ w'.cell? ⟨w.heap.size, 2, none⟩ = some (.int .i64 (p.y.lo)) ∧ w'.cell? ⟨w.heap.size, 3, none⟩ = some (.int .i64 (p.y.hi))) (by kernel_rfl) (by kernel_rfl) (by rfl) (fun w' hw' => ?_) (fun hS => ?_)
  focus exact ⟨(hw'.cell (p := ⟨w.heap.size, 0, none⟩) (by first | omega | (simp; done) | (simp; omega))).trans (by go_simp), (hw'.cell (p := ⟨w.heap.size, 1, none⟩) (by first | omega | (simp; done) | (simp; omega))).trans (by go_simp), (hw'.cell (p := ⟨w.heap.size, 2, none⟩) (by first | omega | (simp; done) | (simp; omega))).trans (by go_simp), (hw'.cell (p := ⟨w.heap.size, 3, none⟩) (by first | omega | (simp; done) | (simp; omega))).trans (by go_simp)⟩
  have HS := Lib.hid hS; clear hS
  simp only [List.take_succ_cons, List.take_zero, List.drop_succ_cons, List.drop_zero]
  repeat (first | (refine wpBl_op ?_ ?_ (fun K hK => ?_); (focus rfl); (focus rfl); apply Exists.intro; refine ⟨fun w' hw' => ?_, ?_⟩; (focus (first | (go_simp; first | (go_at_call 100; exact calls_below (sFloor_pos _ _ _ (by omega) (by omega) (by omega) (by omega)))) | (obtain ⟨kr0, kr1, kr2, kr3⟩ := HS.out w' hw'; go_simp; rfl))); go_simp; refine hK _ ?_; clear hK K) | (refine wpBl_mk ?_ ?_ (fun K hK => ⟨fun g => .pointer (some ⟨g, 0, none⟩), ?_⟩); (focus rfl); (focus rfl); apply Exists.intro; refine ⟨fun w' => ?_, ?_⟩; (focus (go_simp; rfl)); go_simp; refine hK _ _ _ ?_; clear hK K) | (refine wpBl_no ?_ ?_ (fun K hK => ?_); (focus rfl); (focus rfl); go_simp; refine hK _ ?_; clear hK K))
  refine wpBl_end (fun w1 b_w1 => TailW_nil ?_)
  obtain ⟨c_w1, f_w1, z_w1⟩ := bfacts b_w1 (by first | (simp; rfl) | rfl)
  have y0_w1 : w.heap.size < w1.heap.size := (by omega)
  clear HS
  go_simp
  go_wp2
  exact bodyPost_ret (v := .tuple #[.int .i64 (mdX p), .int .i64 (mdY p)]) (by simp [results, Tryz.results57, go_sem, mdX, mdY, *]) rfl ⟨rfl, by (repeat' (first | with_reducible exact Below.refl _ _ | with_reducible refine Below.setCell ?_ ?_ _ | with_reducible refine Below.drew ?_ | with_reducible refine below_drewN ?_ _ | with_reducible refine Below.alloc ?_ ?_ _ | with_reducible refine below_step b_w1 ?_ ?_ | omega | (simp; done) | (simp; omega)))⟩

set_option maxHeartbeats 4000000 in
theorem sShadowSpeed_err (lat az sl h n m c : Int) (w : World) (hc : c ≠ 0) (k : dcM (dlB lat az sl h) (dayB n && inB m 0 1438) = c) :
    Calls Tryz.prog 15 #[(.agg #[.int .i64 (lat), .int .i64 (az), .int .i64 (sl), .int .i64 (h)]), .int .i64 n, .int .i64 m] w fun e w' => e = .returned (.tuple #[.int .i64 0, .int .i64 c]) ∧ Below w.heap.size w w' := by
  have co := fun w => sCode_any lat az sl h n w
  cases q : dayB n
  · rw [q] at k co
    rw [show dcM (dlB lat az sl h) (false && inB m 0 1438) = dcM (dlB lat az sl h) false from rfl] at k
    rw [k] at co
    have CO := Lib.hid co; clear co k
    go_enter Tryz.func15, Tryz.ntmps15
    go_wp2_with fail
    refine (CO.out _).mono ?_
    rintro _ w1 ⟨rfl, b_w1⟩
    obtain ⟨c_w1, f_w1, z_w1⟩ := bfacts b_w1 (by first | (simp; rfl) | rfl)
    go_wp2
    exact bodyPost_ret (v := .tuple #[.int .i64 0, .int .i64 c]) (by simp [results, Tryz.results15, go_sem, *]) rfl ⟨rfl, by (repeat' (first | with_reducible exact Below.refl _ _ | with_reducible refine Below.setCell ?_ ?_ _ | with_reducible refine Below.drew ?_ | with_reducible refine below_drewN ?_ _ | with_reducible refine Below.alloc ?_ ?_ _ | with_reducible refine below_step b_w1 ?_ ?_ | omega | (simp; done) | (simp; omega)))⟩
  · rw [q] at k co
    rw [Bool.true_and] at k
    cases d : dlB lat az sl h
    · rw [d] at k co
      have k' : c = 1 := k.symm
      subst k'
      have co' : ∀ w, Calls Tryz.prog 53 #[(.agg #[.int .i64 (lat), .int .i64 (az), .int .i64 (sl), .int .i64 (h)]), .int .i64 n] w fun e w' => e = .returned (.int .i64 1) ∧ Below w.heap.size w w' := co
      have CO := Lib.hid co'; clear co co' k
      go_enter Tryz.func15, Tryz.ntmps15
      go_wp2_with fail
      refine (CO.out _).mono ?_
      rintro _ w1 ⟨rfl, b_w1⟩
      obtain ⟨c_w1, f_w1, z_w1⟩ := bfacts b_w1 (by first | (simp; rfl) | rfl)
      go_wp2
      exact bodyPost_ret (v := .tuple #[.int .i64 0, .int .i64 1]) (by simp [results, Tryz.results15, go_sem, *]) rfl ⟨rfl, by (repeat' (first | with_reducible exact Below.refl _ _ | with_reducible refine Below.setCell ?_ ?_ _ | with_reducible refine Below.drew ?_ | with_reducible refine below_drewN ?_ _ | with_reducible refine Below.alloc ?_ ?_ _ | with_reducible refine below_step b_w1 ?_ ?_ | omega | (simp; done) | (simp; omega)))⟩
    · rw [d] at k co
      cases r : inB m 0 1438
      · rw [r] at k
        have k' : c = 2 := k.symm
        subst k'
        have co' : ∀ w, Calls Tryz.prog 53 #[(.agg #[.int .i64 (lat), .int .i64 (az), .int .i64 (sl), .int .i64 (h)]), .int .i64 n] w fun e w' => e = .returned (.int .i64 0) ∧ Below w.heap.size w w' := co
        have CO := Lib.hid co'; clear co co' k
        go_enter Tryz.func15, Tryz.ntmps15
        go_wp2_with fail
        refine (CO.out _).mono ?_
        rintro _ w1 ⟨rfl, b_w1⟩
        obtain ⟨c_w1, f_w1, z_w1⟩ := bfacts b_w1 (by first | (simp; rfl) | rfl)
        go_wp2_with (go_at_call 54; refine (sIn_any _ _ _ _).mono ?_; rintro e w' ⟨rfl, rfl⟩)
        exact bodyPost_ret (v := .tuple #[.int .i64 0, .int .i64 2]) (by simp [results, Tryz.results15, go_sem, *]) rfl ⟨rfl, by (repeat' (first | with_reducible exact Below.refl _ _ | with_reducible refine Below.setCell ?_ ?_ _ | with_reducible refine Below.drew ?_ | with_reducible refine below_drewN ?_ _ | with_reducible refine Below.alloc ?_ ?_ _ | with_reducible refine below_step b_w1 ?_ ?_ | omega | (simp; done) | (simp; omega)))⟩
      · rw [r] at k
        exact absurd k.symm hc
set_option maxHeartbeats 8000000 in
theorem sShadowSpeed_walk (lat az sl h n m dlo dhi : Int) (w : World) (r : inB m 0 1438 = true) (p p' : P2) (b1 b2 : Bool) (u0 u1 u2 : V3)
    (co : ∀ w, Calls Tryz.prog 53 #[(.agg #[.int .i64 (lat), .int .i64 (az), .int .i64 (sl), .int .i64 (h)]), .int .i64 n] w fun e w' => e = .returned (.int .i64 0) ∧ Below w.heap.size w w')
    (mk : ∀ w, Calls Tryz.prog 55 #[(.agg #[.int .i64 (lat), .int .i64 (az), .int .i64 (sl), .int .i64 (h)]), .int .i64 n] w fun e w' => ∃ g : Nat, e = .returned (.agg #[.int .i64 lat, .int .i64 az, .int .i64 sl, .int .i64 h, .int .i64 dlo, .int .i64 dhi, .slice (some ⟨g, 0, none⟩) 3 3]) ∧ w.heap.size ≤ g ∧ w'.heap[g]? = some (.cells #[.int .i64 u0.x.lo, .int .i64 u0.x.hi, .int .i64 u0.y.lo, .int .i64 u0.y.hi, .int .i64 u0.z.lo, .int .i64 u0.z.hi, .int .i64 u1.x.lo, .int .i64 u1.x.hi, .int .i64 u1.y.lo, .int .i64 u1.y.hi, .int .i64 u1.z.lo, .int .i64 u1.z.hi, .int .i64 u2.x.lo, .int .i64 u2.x.hi, .int .i64 u2.y.lo, .int .i64 u2.y.hi, .int .i64 u2.z.lo, .int .i64 u2.z.hi] 102) ∧ Below w.heap.size w w')
    (s1 : ∀ (g : Nat) (w : World), w.heap[g]? = some (.cells #[.int .i64 u0.x.lo, .int .i64 u0.x.hi, .int .i64 u0.y.lo, .int .i64 u0.y.hi, .int .i64 u0.z.lo, .int .i64 u0.z.hi, .int .i64 u1.x.lo, .int .i64 u1.x.hi, .int .i64 u1.y.lo, .int .i64 u1.y.hi, .int .i64 u1.z.lo, .int .i64 u1.z.hi, .int .i64 u2.x.lo, .int .i64 u2.x.hi, .int .i64 u2.y.lo, .int .i64 u2.y.hi, .int .i64 u2.z.lo, .int .i64 u2.z.hi] 102) → Calls Tryz.prog 56 #[.agg #[.int .i64 lat, .int .i64 az, .int .i64 sl, .int .i64 h, .int .i64 dlo, .int .i64 dhi, .slice (some ⟨g, 0, none⟩) 3 3], .int .i64 m] w fun e w' => e = .returned (.tuple #[(.agg #[.int .i64 (p.x.lo), .int .i64 (p.x.hi), .int .i64 (p.y.lo), .int .i64 (p.y.hi)]), .bool b1]) ∧ Below w.heap.size w w')
    (s2 : ∀ (g : Nat) (w : World), w.heap[g]? = some (.cells #[.int .i64 u0.x.lo, .int .i64 u0.x.hi, .int .i64 u0.y.lo, .int .i64 u0.y.hi, .int .i64 u0.z.lo, .int .i64 u0.z.hi, .int .i64 u1.x.lo, .int .i64 u1.x.hi, .int .i64 u1.y.lo, .int .i64 u1.y.hi, .int .i64 u1.z.lo, .int .i64 u1.z.hi, .int .i64 u2.x.lo, .int .i64 u2.x.hi, .int .i64 u2.y.lo, .int .i64 u2.y.hi, .int .i64 u2.z.lo, .int .i64 u2.z.hi] 102) → Calls Tryz.prog 56 #[.agg #[.int .i64 lat, .int .i64 az, .int .i64 sl, .int .i64 h, .int .i64 dlo, .int .i64 dhi, .slice (some ⟨g, 0, none⟩) 3 3], .int .i64 (m + 1)] w fun e w' => e = .returned (.tuple #[(.agg #[.int .i64 (p'.x.lo), .int .i64 (p'.x.hi), .int .i64 (p'.y.lo), .int .i64 (p'.y.hi)]), .bool b2]) ∧ Below w.heap.size w w')
    (k1 : b1 = true → plB p = true) (k2 : b2 = true → plB p' = true) :
    Calls Tryz.prog 15 #[(.agg #[.int .i64 (lat), .int .i64 (az), .int .i64 (sl), .int .i64 (h)]), .int .i64 n, .int .i64 m] w fun e w' => e = .returned (.tuple #[.int .i64 (spM b1 b2 (sqM (mdX p') (mdY p') (mdX p) (mdY p))), .int .i64 (spC b1 b2)]) ∧ Below w.heap.size w w' := by
  have m0 := inB_iff.1 r
  have CO := Lib.hid co; have MK := Lib.hid mk; have S1 := Lib.hid s1; have S2 := Lib.hid s2; clear co mk s1 s2
  cases b1
  · clear k1 k2
    go_enter Tryz.func15, Tryz.ntmps15
    go_wp2_with fail
    refine (CO.out _).mono ?_
    rintro _ w1 ⟨rfl, b_w1⟩
    obtain ⟨c_w1, f_w1, z_w1⟩ := bfacts b_w1 (by first | (simp; rfl) | rfl)
    have y0_w1 : w.heap.size < w1.heap.size := (by omega)
    have k0_0_w1 : w1.cell? ⟨w.heap.size, 0, none⟩ = some (.int .i64 (lat)) := (by first | exact (c_w1 _ _ (by omega)).trans (by go_simp) | go_simp)
    have l0_0_w1 : w1.frozen? ⟨w.heap.size, 0, none⟩ = false := (by first | exact (f_w1 _ _ (by omega)).trans (by go_simp) | go_simp)
    have k0_1_w1 : w1.cell? ⟨w.heap.size, 1, none⟩ = some (.int .i64 (az)) := (by first | exact (c_w1 _ _ (by omega)).trans (by go_simp) | go_simp)
    have l0_1_w1 : w1.frozen? ⟨w.heap.size, 1, none⟩ = false := (by first | exact (f_w1 _ _ (by omega)).trans (by go_simp) | go_simp)
    have k0_2_w1 : w1.cell? ⟨w.heap.size, 2, none⟩ = some (.int .i64 (sl)) := (by first | exact (c_w1 _ _ (by omega)).trans (by go_simp) | go_simp)
    have l0_2_w1 : w1.frozen? ⟨w.heap.size, 2, none⟩ = false := (by first | exact (f_w1 _ _ (by omega)).trans (by go_simp) | go_simp)
    have k0_3_w1 : w1.cell? ⟨w.heap.size, 3, none⟩ = some (.int .i64 (h)) := (by first | exact (c_w1 _ _ (by omega)).trans (by go_simp) | go_simp)
    have l0_3_w1 : w1.frozen? ⟨w.heap.size, 3, none⟩ = false := (by first | exact (f_w1 _ _ (by omega)).trans (by go_simp) | go_simp)
    clear c_w1 f_w1
    go_wp2_with (go_at_call 54; refine (sIn_any _ _ _ _).mono ?_; rintro e w' ⟨rfl, rfl⟩)
    refine (MK.out _).mono ?_
    rintro _ w2 ⟨g, rfl, hg1, hg2, b_w2⟩
    obtain ⟨c_w2, f_w2, z_w2⟩ := bfacts b_w2 (by first | (simp; rfl) | rfl); have y0_w2 : w.heap.size < w2.heap.size := (by omega)
    have HGa := Lib.hid (heap_alloc hg2 (o' := .cells #[.int .i64 lat, .int .i64 az, .int .i64 sl, .int .i64 h, .int .i64 dlo, .int .i64 dhi, .slice (some ⟨g, 0, none⟩) 3 3] 74))
    clear hg2
    go_wp2_with fail
    refine (S1.out g _ HGa.out).mono ?_
    rintro _ w3 ⟨rfl, b_w3⟩
    have HGb := Lib.hid (heap_alloc (heap_below HGa.out b_w3) (o' := .cells #[.int .i64 p.x.lo, .int .i64 p.x.hi, .int .i64 p.y.lo, .int .i64 p.y.hi] 36))
    obtain ⟨c_w3, f_w3, z_w3⟩ := bfacts b_w3 (by first | (simp; rfl) | rfl); have y0_w3 : w2.heap.size < w3.heap.size := (by omega); have k0_0_w3 : w3.cell? ⟨w2.heap.size, 0, none⟩ = some (.int .i64 (lat)) := (by first | exact (c_w3 _ _ (by omega)).trans (by go_simp) | go_simp); have l0_0_w3 : w3.frozen? ⟨w2.heap.size, 0, none⟩ = false := (by first | exact (f_w3 _ _ (by omega)).trans (by go_simp) | go_simp); have k0_1_w3 : w3.cell? ⟨w2.heap.size, 1, none⟩ = some (.int .i64 (az)) := (by first | exact (c_w3 _ _ (by omega)).trans (by go_simp) | go_simp); have l0_1_w3 : w3.frozen? ⟨w2.heap.size, 1, none⟩ = false := (by first | exact (f_w3 _ _ (by omega)).trans (by go_simp) | go_simp); have k0_2_w3 : w3.cell? ⟨w2.heap.size, 2, none⟩ = some (.int .i64 (sl)) := (by first | exact (c_w3 _ _ (by omega)).trans (by go_simp) | go_simp); have l0_2_w3 : w3.frozen? ⟨w2.heap.size, 2, none⟩ = false := (by first | exact (f_w3 _ _ (by omega)).trans (by go_simp) | go_simp); have k0_3_w3 : w3.cell? ⟨w2.heap.size, 3, none⟩ = some (.int .i64 (h)) := (by first | exact (c_w3 _ _ (by omega)).trans (by go_simp) | go_simp); have l0_3_w3 : w3.frozen? ⟨w2.heap.size, 3, none⟩ = false := (by first | exact (f_w3 _ _ (by omega)).trans (by go_simp) | go_simp); have k0_4_w3 : w3.cell? ⟨w2.heap.size, 4, none⟩ = some (.int .i64 (dlo)) := (by first | exact (c_w3 _ _ (by omega)).trans (by go_simp) | go_simp); have l0_4_w3 : w3.frozen? ⟨w2.heap.size, 4, none⟩ = false := (by first | exact (f_w3 _ _ (by omega)).trans (by go_simp) | go_simp); have k0_5_w3 : w3.cell? ⟨w2.heap.size, 5, none⟩ = some (.int .i64 (dhi)) := (by first | exact (c_w3 _ _ (by omega)).trans (by go_simp) | go_simp); have l0_5_w3 : w3.frozen? ⟨w2.heap.size, 5, none⟩ = false := (by first | exact (f_w3 _ _ (by omega)).trans (by go_simp) | go_simp); have k0_6_w3 : w3.cell? ⟨w2.heap.size, 6, none⟩ = some (.slice (some ⟨g, 0, none⟩) 3 3) := (by first | exact (c_w3 _ _ (by omega)).trans (by go_simp) | go_simp); have l0_6_w3 : w3.frozen? ⟨w2.heap.size, 6, none⟩ = false := (by first | exact (f_w3 _ _ (by omega)).trans (by go_simp) | go_simp); clear c_w3 f_w3
    go_wp2_with fail
    refine (S2.out g _ HGb.out).mono ?_
    rintro _ w4 ⟨rfl, b_w4⟩
    obtain ⟨c_w4, f_w4, z_w4⟩ := bfacts b_w4 (by first | (simp; rfl) | rfl); have y0_w4 : w3.heap.size < w4.heap.size := (by omega); have k0_0_w4 : w4.cell? ⟨w3.heap.size, 0, none⟩ = some (.int .i64 (p.x.lo)) := (by first | exact (c_w4 _ _ (by omega)).trans (by go_simp) | go_simp); have l0_0_w4 : w4.frozen? ⟨w3.heap.size, 0, none⟩ = false := (by first | exact (f_w4 _ _ (by omega)).trans (by go_simp) | go_simp); have k0_1_w4 : w4.cell? ⟨w3.heap.size, 1, none⟩ = some (.int .i64 (p.x.hi)) := (by first | exact (c_w4 _ _ (by omega)).trans (by go_simp) | go_simp); have l0_1_w4 : w4.frozen? ⟨w3.heap.size, 1, none⟩ = false := (by first | exact (f_w4 _ _ (by omega)).trans (by go_simp) | go_simp); have k0_2_w4 : w4.cell? ⟨w3.heap.size, 2, none⟩ = some (.int .i64 (p.y.lo)) := (by first | exact (c_w4 _ _ (by omega)).trans (by go_simp) | go_simp); have l0_2_w4 : w4.frozen? ⟨w3.heap.size, 2, none⟩ = false := (by first | exact (f_w4 _ _ (by omega)).trans (by go_simp) | go_simp); have k0_3_w4 : w4.cell? ⟨w3.heap.size, 3, none⟩ = some (.int .i64 (p.y.hi)) := (by first | exact (c_w4 _ _ (by omega)).trans (by go_simp) | go_simp); have l0_3_w4 : w4.frozen? ⟨w3.heap.size, 3, none⟩ = false := (by first | exact (f_w4 _ _ (by omega)).trans (by go_simp) | go_simp); clear c_w4 f_w4
    go_wp2
    exact bodyPost_ret (v := .tuple #[.int .i64 0, .int .i64 4]) (by simp [results, Tryz.results15, go_sem, *]) rfl ⟨rfl, by (repeat' (first | with_reducible exact Below.refl _ _ | with_reducible refine Below.setCell ?_ ?_ _ | with_reducible refine Below.drew ?_ | with_reducible refine below_drewN ?_ _ | with_reducible refine Below.alloc ?_ ?_ _ | with_reducible refine below_step b_w4 ?_ ?_ | with_reducible refine below_step b_w3 ?_ ?_ | with_reducible refine below_step b_w2 ?_ ?_ | with_reducible refine below_step b_w1 ?_ ?_ | omega | (simp; done) | (simp; omega)))⟩
  · cases b2
    · clear k1 k2
      go_enter Tryz.func15, Tryz.ntmps15
      go_wp2_with fail
      refine (CO.out _).mono ?_
      rintro _ w1 ⟨rfl, b_w1⟩
      obtain ⟨c_w1, f_w1, z_w1⟩ := bfacts b_w1 (by first | (simp; rfl) | rfl)
      have y0_w1 : w.heap.size < w1.heap.size := (by omega)
      have k0_0_w1 : w1.cell? ⟨w.heap.size, 0, none⟩ = some (.int .i64 (lat)) := (by first | exact (c_w1 _ _ (by omega)).trans (by go_simp) | go_simp)
      have l0_0_w1 : w1.frozen? ⟨w.heap.size, 0, none⟩ = false := (by first | exact (f_w1 _ _ (by omega)).trans (by go_simp) | go_simp)
      have k0_1_w1 : w1.cell? ⟨w.heap.size, 1, none⟩ = some (.int .i64 (az)) := (by first | exact (c_w1 _ _ (by omega)).trans (by go_simp) | go_simp)
      have l0_1_w1 : w1.frozen? ⟨w.heap.size, 1, none⟩ = false := (by first | exact (f_w1 _ _ (by omega)).trans (by go_simp) | go_simp)
      have k0_2_w1 : w1.cell? ⟨w.heap.size, 2, none⟩ = some (.int .i64 (sl)) := (by first | exact (c_w1 _ _ (by omega)).trans (by go_simp) | go_simp)
      have l0_2_w1 : w1.frozen? ⟨w.heap.size, 2, none⟩ = false := (by first | exact (f_w1 _ _ (by omega)).trans (by go_simp) | go_simp)
      have k0_3_w1 : w1.cell? ⟨w.heap.size, 3, none⟩ = some (.int .i64 (h)) := (by first | exact (c_w1 _ _ (by omega)).trans (by go_simp) | go_simp)
      have l0_3_w1 : w1.frozen? ⟨w.heap.size, 3, none⟩ = false := (by first | exact (f_w1 _ _ (by omega)).trans (by go_simp) | go_simp)
      clear c_w1 f_w1
      go_wp2_with (go_at_call 54; refine (sIn_any _ _ _ _).mono ?_; rintro e w' ⟨rfl, rfl⟩)
      refine (MK.out _).mono ?_
      rintro _ w2 ⟨g, rfl, hg1, hg2, b_w2⟩
      obtain ⟨c_w2, f_w2, z_w2⟩ := bfacts b_w2 (by first | (simp; rfl) | rfl); have y0_w2 : w.heap.size < w2.heap.size := (by omega)
      have HGa := Lib.hid (heap_alloc hg2 (o' := .cells #[.int .i64 lat, .int .i64 az, .int .i64 sl, .int .i64 h, .int .i64 dlo, .int .i64 dhi, .slice (some ⟨g, 0, none⟩) 3 3] 74))
      clear hg2
      go_wp2_with fail
      refine (S1.out g _ HGa.out).mono ?_
      rintro _ w3 ⟨rfl, b_w3⟩
      have HGb := Lib.hid (heap_alloc (heap_below HGa.out b_w3) (o' := .cells #[.int .i64 p.x.lo, .int .i64 p.x.hi, .int .i64 p.y.lo, .int .i64 p.y.hi] 36))
      obtain ⟨c_w3, f_w3, z_w3⟩ := bfacts b_w3 (by first | (simp; rfl) | rfl); have y0_w3 : w2.heap.size < w3.heap.size := (by omega); have k0_0_w3 : w3.cell? ⟨w2.heap.size, 0, none⟩ = some (.int .i64 (lat)) := (by first | exact (c_w3 _ _ (by omega)).trans (by go_simp) | go_simp); have l0_0_w3 : w3.frozen? ⟨w2.heap.size, 0, none⟩ = false := (by first | exact (f_w3 _ _ (by omega)).trans (by go_simp) | go_simp); have k0_1_w3 : w3.cell? ⟨w2.heap.size, 1, none⟩ = some (.int .i64 (az)) := (by first | exact (c_w3 _ _ (by omega)).trans (by go_simp) | go_simp); have l0_1_w3 : w3.frozen? ⟨w2.heap.size, 1, none⟩ = false := (by first | exact (f_w3 _ _ (by omega)).trans (by go_simp) | go_simp); have k0_2_w3 : w3.cell? ⟨w2.heap.size, 2, none⟩ = some (.int .i64 (sl)) := (by first | exact (c_w3 _ _ (by omega)).trans (by go_simp) | go_simp); have l0_2_w3 : w3.frozen? ⟨w2.heap.size, 2, none⟩ = false := (by first | exact (f_w3 _ _ (by omega)).trans (by go_simp) | go_simp); have k0_3_w3 : w3.cell? ⟨w2.heap.size, 3, none⟩ = some (.int .i64 (h)) := (by first | exact (c_w3 _ _ (by omega)).trans (by go_simp) | go_simp); have l0_3_w3 : w3.frozen? ⟨w2.heap.size, 3, none⟩ = false := (by first | exact (f_w3 _ _ (by omega)).trans (by go_simp) | go_simp); have k0_4_w3 : w3.cell? ⟨w2.heap.size, 4, none⟩ = some (.int .i64 (dlo)) := (by first | exact (c_w3 _ _ (by omega)).trans (by go_simp) | go_simp); have l0_4_w3 : w3.frozen? ⟨w2.heap.size, 4, none⟩ = false := (by first | exact (f_w3 _ _ (by omega)).trans (by go_simp) | go_simp); have k0_5_w3 : w3.cell? ⟨w2.heap.size, 5, none⟩ = some (.int .i64 (dhi)) := (by first | exact (c_w3 _ _ (by omega)).trans (by go_simp) | go_simp); have l0_5_w3 : w3.frozen? ⟨w2.heap.size, 5, none⟩ = false := (by first | exact (f_w3 _ _ (by omega)).trans (by go_simp) | go_simp); have k0_6_w3 : w3.cell? ⟨w2.heap.size, 6, none⟩ = some (.slice (some ⟨g, 0, none⟩) 3 3) := (by first | exact (c_w3 _ _ (by omega)).trans (by go_simp) | go_simp); have l0_6_w3 : w3.frozen? ⟨w2.heap.size, 6, none⟩ = false := (by first | exact (f_w3 _ _ (by omega)).trans (by go_simp) | go_simp); clear c_w3 f_w3
      go_wp2_with fail
      refine (S2.out g _ HGb.out).mono ?_
      rintro _ w4 ⟨rfl, b_w4⟩
      obtain ⟨c_w4, f_w4, z_w4⟩ := bfacts b_w4 (by first | (simp; rfl) | rfl); have y0_w4 : w3.heap.size < w4.heap.size := (by omega); have k0_0_w4 : w4.cell? ⟨w3.heap.size, 0, none⟩ = some (.int .i64 (p.x.lo)) := (by first | exact (c_w4 _ _ (by omega)).trans (by go_simp) | go_simp); have l0_0_w4 : w4.frozen? ⟨w3.heap.size, 0, none⟩ = false := (by first | exact (f_w4 _ _ (by omega)).trans (by go_simp) | go_simp); have k0_1_w4 : w4.cell? ⟨w3.heap.size, 1, none⟩ = some (.int .i64 (p.x.hi)) := (by first | exact (c_w4 _ _ (by omega)).trans (by go_simp) | go_simp); have l0_1_w4 : w4.frozen? ⟨w3.heap.size, 1, none⟩ = false := (by first | exact (f_w4 _ _ (by omega)).trans (by go_simp) | go_simp); have k0_2_w4 : w4.cell? ⟨w3.heap.size, 2, none⟩ = some (.int .i64 (p.y.lo)) := (by first | exact (c_w4 _ _ (by omega)).trans (by go_simp) | go_simp); have l0_2_w4 : w4.frozen? ⟨w3.heap.size, 2, none⟩ = false := (by first | exact (f_w4 _ _ (by omega)).trans (by go_simp) | go_simp); have k0_3_w4 : w4.cell? ⟨w3.heap.size, 3, none⟩ = some (.int .i64 (p.y.hi)) := (by first | exact (c_w4 _ _ (by omega)).trans (by go_simp) | go_simp); have l0_3_w4 : w4.frozen? ⟨w3.heap.size, 3, none⟩ = false := (by first | exact (f_w4 _ _ (by omega)).trans (by go_simp) | go_simp); clear c_w4 f_w4
      go_wp2
      exact bodyPost_ret (v := .tuple #[.int .i64 0, .int .i64 4]) (by simp [results, Tryz.results15, go_sem, *]) rfl ⟨rfl, by (repeat' (first | with_reducible exact Below.refl _ _ | with_reducible refine Below.setCell ?_ ?_ _ | with_reducible refine Below.drew ?_ | with_reducible refine below_drewN ?_ _ | with_reducible refine Below.alloc ?_ ?_ _ | with_reducible refine below_step b_w4 ?_ ?_ | with_reducible refine below_step b_w3 ?_ ?_ | with_reducible refine below_step b_w2 ?_ ?_ | with_reducible refine below_step b_w1 ?_ ?_ | omega | (simp; done) | (simp; omega)))⟩
    · have h1 := plB_t (k1 rfl)
      have h2 := plB_t (k2 rfl)
      have g1 := md_bd (k1 rfl)
      have g2 := md_bd (k2 rfl)
      have mi1 := fun w => sMiddle_any p w (by omega) (by omega) (by omega) (by omega) (by omega) (by omega) (by omega) (by omega)
      have mi2 := fun w => sMiddle_any p' w (by omega) (by omega) (by omega) (by omega) (by omega) (by omega) (by omega) (by omega)
      obtain ⟨v1, v2, v3, v4⟩ := g1
      obtain ⟨v5, v6, v7, v8⟩ := g2
      have q1 := sq_bd (x := mdX p' - mdX p) (by omega) (by omega)
      have q2 := sq_bd (x := mdY p' - mdY p) (by omega) (by omega)
      have M1 := Lib.hid mi1; have M2 := Lib.hid mi2; clear mi1 mi2 k1 k2 h1 h2
      go_enter Tryz.func15, Tryz.ntmps15
      go_wp2_with fail
      refine (CO.out _).mono ?_
      rintro _ w1 ⟨rfl, b_w1⟩
      obtain ⟨c_w1, f_w1, z_w1⟩ := bfacts b_w1 (by first | (simp; rfl) | rfl)
      have y0_w1 : w.heap.size < w1.heap.size := (by omega)
      have k0_0_w1 : w1.cell? ⟨w.heap.size, 0, none⟩ = some (.int .i64 (lat)) := (by first | exact (c_w1 _ _ (by omega)).trans (by go_simp) | go_simp)
      have l0_0_w1 : w1.frozen? ⟨w.heap.size, 0, none⟩ = false := (by first | exact (f_w1 _ _ (by omega)).trans (by go_simp) | go_simp)
      have k0_1_w1 : w1.cell? ⟨w.heap.size, 1, none⟩ = some (.int .i64 (az)) := (by first | exact (c_w1 _ _ (by omega)).trans (by go_simp) | go_simp)
      have l0_1_w1 : w1.frozen? ⟨w.heap.size, 1, none⟩ = false := (by first | exact (f_w1 _ _ (by omega)).trans (by go_simp) | go_simp)
      have k0_2_w1 : w1.cell? ⟨w.heap.size, 2, none⟩ = some (.int .i64 (sl)) := (by first | exact (c_w1 _ _ (by omega)).trans (by go_simp) | go_simp)
      have l0_2_w1 : w1.frozen? ⟨w.heap.size, 2, none⟩ = false := (by first | exact (f_w1 _ _ (by omega)).trans (by go_simp) | go_simp)
      have k0_3_w1 : w1.cell? ⟨w.heap.size, 3, none⟩ = some (.int .i64 (h)) := (by first | exact (c_w1 _ _ (by omega)).trans (by go_simp) | go_simp)
      have l0_3_w1 : w1.frozen? ⟨w.heap.size, 3, none⟩ = false := (by first | exact (f_w1 _ _ (by omega)).trans (by go_simp) | go_simp)
      clear c_w1 f_w1
      go_wp2_with (go_at_call 54; refine (sIn_any _ _ _ _).mono ?_; rintro e w' ⟨rfl, rfl⟩)
      refine (MK.out _).mono ?_
      rintro _ w2 ⟨g, rfl, hg1, hg2, b_w2⟩
      obtain ⟨c_w2, f_w2, z_w2⟩ := bfacts b_w2 (by first | (simp; rfl) | rfl); have y0_w2 : w.heap.size < w2.heap.size := (by omega)
      have HGa := Lib.hid (heap_alloc hg2 (o' := .cells #[.int .i64 lat, .int .i64 az, .int .i64 sl, .int .i64 h, .int .i64 dlo, .int .i64 dhi, .slice (some ⟨g, 0, none⟩) 3 3] 74))
      clear hg2
      go_wp2_with fail
      refine (S1.out g _ HGa.out).mono ?_
      rintro _ w3 ⟨rfl, b_w3⟩
      have HGb := Lib.hid (heap_alloc (heap_below HGa.out b_w3) (o' := .cells #[.int .i64 p.x.lo, .int .i64 p.x.hi, .int .i64 p.y.lo, .int .i64 p.y.hi] 36))
      obtain ⟨c_w3, f_w3, z_w3⟩ := bfacts b_w3 (by first | (simp; rfl) | rfl); have y0_w3 : w2.heap.size < w3.heap.size := (by omega); have k0_0_w3 : w3.cell? ⟨w2.heap.size, 0, none⟩ = some (.int .i64 (lat)) := (by first | exact (c_w3 _ _ (by omega)).trans (by go_simp) | go_simp); have l0_0_w3 : w3.frozen? ⟨w2.heap.size, 0, none⟩ = false := (by first | exact (f_w3 _ _ (by omega)).trans (by go_simp) | go_simp); have k0_1_w3 : w3.cell? ⟨w2.heap.size, 1, none⟩ = some (.int .i64 (az)) := (by first | exact (c_w3 _ _ (by omega)).trans (by go_simp) | go_simp); have l0_1_w3 : w3.frozen? ⟨w2.heap.size, 1, none⟩ = false := (by first | exact (f_w3 _ _ (by omega)).trans (by go_simp) | go_simp); have k0_2_w3 : w3.cell? ⟨w2.heap.size, 2, none⟩ = some (.int .i64 (sl)) := (by first | exact (c_w3 _ _ (by omega)).trans (by go_simp) | go_simp); have l0_2_w3 : w3.frozen? ⟨w2.heap.size, 2, none⟩ = false := (by first | exact (f_w3 _ _ (by omega)).trans (by go_simp) | go_simp); have k0_3_w3 : w3.cell? ⟨w2.heap.size, 3, none⟩ = some (.int .i64 (h)) := (by first | exact (c_w3 _ _ (by omega)).trans (by go_simp) | go_simp); have l0_3_w3 : w3.frozen? ⟨w2.heap.size, 3, none⟩ = false := (by first | exact (f_w3 _ _ (by omega)).trans (by go_simp) | go_simp); have k0_4_w3 : w3.cell? ⟨w2.heap.size, 4, none⟩ = some (.int .i64 (dlo)) := (by first | exact (c_w3 _ _ (by omega)).trans (by go_simp) | go_simp); have l0_4_w3 : w3.frozen? ⟨w2.heap.size, 4, none⟩ = false := (by first | exact (f_w3 _ _ (by omega)).trans (by go_simp) | go_simp); have k0_5_w3 : w3.cell? ⟨w2.heap.size, 5, none⟩ = some (.int .i64 (dhi)) := (by first | exact (c_w3 _ _ (by omega)).trans (by go_simp) | go_simp); have l0_5_w3 : w3.frozen? ⟨w2.heap.size, 5, none⟩ = false := (by first | exact (f_w3 _ _ (by omega)).trans (by go_simp) | go_simp); have k0_6_w3 : w3.cell? ⟨w2.heap.size, 6, none⟩ = some (.slice (some ⟨g, 0, none⟩) 3 3) := (by first | exact (c_w3 _ _ (by omega)).trans (by go_simp) | go_simp); have l0_6_w3 : w3.frozen? ⟨w2.heap.size, 6, none⟩ = false := (by first | exact (f_w3 _ _ (by omega)).trans (by go_simp) | go_simp); clear c_w3 f_w3
      go_wp2_with fail
      refine (S2.out g _ HGb.out).mono ?_
      rintro _ w4 ⟨rfl, b_w4⟩
      obtain ⟨c_w4, f_w4, z_w4⟩ := bfacts b_w4 (by first | (simp; rfl) | rfl); have y0_w4 : w3.heap.size < w4.heap.size := (by omega); have k0_0_w4 : w4.cell? ⟨w3.heap.size, 0, none⟩ = some (.int .i64 (p.x.lo)) := (by first | exact (c_w4 _ _ (by omega)).trans (by go_simp) | go_simp); have l0_0_w4 : w4.frozen? ⟨w3.heap.size, 0, none⟩ = false := (by first | exact (f_w4 _ _ (by omega)).trans (by go_simp) | go_simp); have k0_1_w4 : w4.cell? ⟨w3.heap.size, 1, none⟩ = some (.int .i64 (p.x.hi)) := (by first | exact (c_w4 _ _ (by omega)).trans (by go_simp) | go_simp); have l0_1_w4 : w4.frozen? ⟨w3.heap.size, 1, none⟩ = false := (by first | exact (f_w4 _ _ (by omega)).trans (by go_simp) | go_simp); have k0_2_w4 : w4.cell? ⟨w3.heap.size, 2, none⟩ = some (.int .i64 (p.y.lo)) := (by first | exact (c_w4 _ _ (by omega)).trans (by go_simp) | go_simp); have l0_2_w4 : w4.frozen? ⟨w3.heap.size, 2, none⟩ = false := (by first | exact (f_w4 _ _ (by omega)).trans (by go_simp) | go_simp); have k0_3_w4 : w4.cell? ⟨w3.heap.size, 3, none⟩ = some (.int .i64 (p.y.hi)) := (by first | exact (c_w4 _ _ (by omega)).trans (by go_simp) | go_simp); have l0_3_w4 : w4.frozen? ⟨w3.heap.size, 3, none⟩ = false := (by first | exact (f_w4 _ _ (by omega)).trans (by go_simp) | go_simp); clear c_w4 f_w4
      go_wp2_with fail
      refine (M1.out _).mono ?_
      rintro _ w5 ⟨rfl, b_w5⟩
      obtain ⟨c_w5, f_w5, z_w5⟩ := bfacts b_w5 (by first | (simp; rfl) | rfl)
      have y0_w5 : w4.heap.size < w5.heap.size := (by omega)
      have k0_0_w5 : w5.cell? ⟨w4.heap.size, 0, none⟩ = some (.int .i64 (p'.x.lo)) := (by first | exact (c_w5 _ _ (by omega)).trans (by go_simp) | go_simp)
      have l0_0_w5 : w5.frozen? ⟨w4.heap.size, 0, none⟩ = false := (by first | exact (f_w5 _ _ (by omega)).trans (by go_simp) | go_simp)
      have k0_1_w5 : w5.cell? ⟨w4.heap.size, 1, none⟩ = some (.int .i64 (p'.x.hi)) := (by first | exact (c_w5 _ _ (by omega)).trans (by go_simp) | go_simp)
      have l0_1_w5 : w5.frozen? ⟨w4.heap.size, 1, none⟩ = false := (by first | exact (f_w5 _ _ (by omega)).trans (by go_simp) | go_simp)
      have k0_2_w5 : w5.cell? ⟨w4.heap.size, 2, none⟩ = some (.int .i64 (p'.y.lo)) := (by first | exact (c_w5 _ _ (by omega)).trans (by go_simp) | go_simp)
      have l0_2_w5 : w5.frozen? ⟨w4.heap.size, 2, none⟩ = false := (by first | exact (f_w5 _ _ (by omega)).trans (by go_simp) | go_simp)
      have k0_3_w5 : w5.cell? ⟨w4.heap.size, 3, none⟩ = some (.int .i64 (p'.y.hi)) := (by first | exact (c_w5 _ _ (by omega)).trans (by go_simp) | go_simp)
      have l0_3_w5 : w5.frozen? ⟨w4.heap.size, 3, none⟩ = false := (by first | exact (f_w5 _ _ (by omega)).trans (by go_simp) | go_simp)
      clear c_w5 f_w5
      go_wp2_with fail
      refine (M2.out _).mono ?_
      rintro _ w6 ⟨rfl, b_w6⟩
      obtain ⟨c_w6, f_w6, z_w6⟩ := bfacts b_w6 (by first | (simp; rfl) | rfl)
      go_wp2
      exact bodyPost_ret (v := .tuple #[.int .i64 (sqM (mdX p') (mdY p') (mdX p) (mdY p)), .int .i64 0]) (by simp [results, Tryz.results15, go_sem, sqM, *]) rfl ⟨rfl, by (repeat' (first | with_reducible exact Below.refl _ _ | with_reducible refine Below.setCell ?_ ?_ _ | with_reducible refine Below.drew ?_ | with_reducible refine below_drewN ?_ _ | with_reducible refine Below.alloc ?_ ?_ _ | with_reducible refine below_step b_w6 ?_ ?_ | with_reducible refine below_step b_w5 ?_ ?_ | with_reducible refine below_step b_w4 ?_ ?_ | with_reducible refine below_step b_w3 ?_ ?_ | with_reducible refine below_step b_w2 ?_ ?_ | with_reducible refine below_step b_w1 ?_ ?_ | omega | (simp; done) | (simp; omega)))⟩


end Go.Proofs.YteooegliepbcnaaGreat
