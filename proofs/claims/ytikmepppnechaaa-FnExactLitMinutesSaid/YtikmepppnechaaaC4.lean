/- What the program's functions on the light of the minutes of a day return. -/
import Derived.Test.YtikmepppnechaaaC3
import Derived.Test.YtikmepppnechaaaMath3
namespace Go.Proofs.Ytikmepppnechaaa
set_option linter.unusedVariables false
set_option linter.unusedSimpArgs false
open Go.RowKit


set_option maxHeartbeats 1000000 in
theorem light_any (lat lo hi h m : Int) (w : World) (l0 : -324000 ≤ lat) (l1 : lat ≤ 324000) (a0 : -1000000000000 ≤ lo) (a1 : lo ≤ 1000000000000) (b0 : -1000000000000 ≤ hi) (b1 : hi ≤ 1000000000000) (m0 : 0 ≤ m) (m1 : m ≤ 1439) (h0 : -36000 ≤ h) (h1 : h ≤ 36000) :
    Calls Try.prog 63 #[.int .i64 lat, (.agg #[.int .i64 (lo), .int .i64 (hi)]), .int .i64 m, .int .i64 h] w fun e w' => e = .returned (.int .i64 (lgM (suV lat lo hi m).z.lo (suV lat lo hi m).z.hi (sL h) (sH h))) ∧ Below w.heap.size w w' := by
  have su := fun w => sunAt_any lat lo hi m w l0 l1 a0 a1 b0 b1 m0 m1
  have cs := lgM_cases (suV lat lo hi m).z.lo (suV lat lo hi m).z.hi (sL h) (sH h)
  generalize suV lat lo hi m = v at su cs ⊢
  have SU := Lib.hid su; clear su
  rcases cs with ⟨t, e⟩ | ⟨t1, t2, e⟩ | ⟨t1, t2, e⟩
  all_goals
    have E := Lib.hid e
    clear e
    go_enter Try.func63, Try.ntmps63
    go_wp2_with fail
    refine (SU.out _).mono ?_
    rintro _ w1 ⟨rfl, b_w1⟩
    obtain ⟨c_w1, f_w1, z_w1⟩ := bfacts b_w1 (by first | (simp; rfl) | rfl)
    have y0_w1 : w.heap.size < w1.heap.size := (by omega)
    have k0_0_w1 : w1.cell? ⟨w.heap.size, 0, none⟩ = some (.int .i64 (lo)) := (by first | exact (c_w1 _ _ (by omega)).trans (by go_simp) | go_simp)
    have l0_0_w1 : w1.frozen? ⟨w.heap.size, 0, none⟩ = false := (by first | exact (f_w1 _ _ (by omega)).trans (by go_simp) | go_simp)
    have k0_1_w1 : w1.cell? ⟨w.heap.size, 1, none⟩ = some (.int .i64 (hi)) := (by first | exact (c_w1 _ _ (by omega)).trans (by go_simp) | go_simp)
    have l0_1_w1 : w1.frozen? ⟨w.heap.size, 1, none⟩ = false := (by first | exact (f_w1 _ _ (by omega)).trans (by go_simp) | go_simp)
    clear c_w1 f_w1
    go_wp2_with fail
    refine (sine_any h _ (by omega) (by omega)).mono ?_
    rintro _ w2 ⟨rfl, b_w2⟩
    obtain ⟨c_w2, f_w2, z_w2⟩ := bfacts b_w2 (by first | (simp; rfl) | rfl)
    have y0_w2 : w.heap.size < w2.heap.size := (by omega)
    have k0_0_w2 : w2.cell? ⟨w.heap.size, 0, none⟩ = some (.int .i64 (lo)) := (by first | exact (c_w2 _ _ (by omega)).trans (by go_simp) | go_simp)
    have l0_0_w2 : w2.frozen? ⟨w.heap.size, 0, none⟩ = false := (by first | exact (f_w2 _ _ (by omega)).trans (by go_simp) | go_simp)
    have k0_1_w2 : w2.cell? ⟨w.heap.size, 1, none⟩ = some (.int .i64 (hi)) := (by first | exact (c_w2 _ _ (by omega)).trans (by go_simp) | go_simp)
    have l0_1_w2 : w2.frozen? ⟨w.heap.size, 1, none⟩ = false := (by first | exact (f_w2 _ _ (by omega)).trans (by go_simp) | go_simp)
    clear c_w2 f_w2
    go_wp2
    go_ret
    exact ⟨ret_int E.out.symm, by (repeat' (first | with_reducible exact Below.refl _ _ | with_reducible refine Below.setCell ?_ ?_ _ | with_reducible refine Below.drew ?_ | with_reducible refine below_drewN ?_ _ | with_reducible refine Below.alloc ?_ ?_ _ | with_reducible refine below_step b_w2 ?_ ?_ | with_reducible refine below_step b_w1 ?_ ?_ | omega | (simp; done) | (simp; omega)))⟩

set_option maxHeartbeats 1000000 in
theorem seen_any (lat n : Int) (hs : List Int) (g cap : Nat) (w : World) (hl : hs.length ≤ 4) (hg : g < w.heap.size) (hc : ∀ j (h : j < hs.length), w.cell? ⟨g, j, none⟩ = some (.int .i64 hs[j])) :
    Calls Try.prog 62 #[.int .i64 lat, .int .i64 n, .slice (some ⟨g, 0, none⟩) hs.length cap] w fun e w' => e = .returned (.bool (hs.all (fun h => inB h (-36000) 36000) && (inB lat (-324000) 324000 && dayB n))) ∧ Below w.heap.size w w' := by
  have HC := Lib.hid hc; clear hc
  go_enter Try.func62, Try.ntmps62
  go_wp2
  go_loopw [11] (fun k wr => ∃ i : Nat, i ≤ hs.length ∧ k = .int .i64 i ∧ (hs.take i).all (fun h => inB h (-36000) 36000) = true ∧ wr = w) (fun k _ => (hs.length - intOf k).toNat)
  case atStart => exact ⟨0, by omega, rfl, by simp, rfl⟩
  case round =>
    obtain ⟨i, hle, rfl, hall, rfl⟩ := hrel
    have HA := Lib.hid hall; clear hall
    by_cases ht : i < hs.length
    · have hc := HC.out i ht
      cases p : inB hs[i] (-36000) 36000
      · go_wp2_with (go_at_call 97; refine (isHorizon_any _ _).mono ?_; rintro e w' ⟨rfl, rfl⟩)
        go_ret
        exact ⟨ret_bool (by rw [show hs.all (fun h => inB h (-36000) 36000) = false from List.all_eq_false.2 ⟨hs[i], List.getElem_mem ht, by simp [p]⟩]; rfl), Below.refl _ _⟩
      · go_wp2_with (go_at_call 97; refine (isHorizon_any _ _).mono ?_; rintro e w' ⟨rfl, rfl⟩)
        go_roundw
        case rel => exact ⟨i + 1, by omega, by simp, by rw [List.take_add_one, List.all_append, HA.out]; simp [ht, p], by first | rfl | trivial⟩
        case measure => simp [intOf]; omega
    · have hi' : i = hs.length := by omega
      have hfull : hs.all (fun h => inB h (-36000) 36000) = true := by have := HA.out; rw [hi', List.take_length] at this; exact this
      have HF := Lib.hid hfull
      have HI := Lib.hid hi'
      clear hfull
      cases q : inB lat (-324000) 324000
      · go_wp2_with (go_at_call 50; refine (isLatitude_any _ _).mono ?_; rintro e w' ⟨rfl, rfl⟩)
        go_ret
        exact ⟨ret_bool (by rw [HF.out, q]; rfl), Below.refl _ _⟩
      · go_wp2_with (first | (go_at_call 50; refine (isLatitude_any _ _).mono ?_; rintro e w' ⟨rfl, rfl⟩) | (go_at_call 45; refine (isDayNumber_any _ _).mono ?_; rintro e w1 ⟨rfl, b_w1⟩; obtain ⟨c_w1, f_w1, z_w1⟩ := bfacts b_w1 (by first | (simp; rfl) | rfl)))
        go_ret
        exact ⟨ret_bool (by rw [HF.out, q]; simp), b_w1⟩

set_option maxHeartbeats 400000 in
theorem Declination_no (n : Int) (w : World) (h : dayB n = false) :
    Calls Try.prog 16 #[.int .i64 n] w fun e w' => e = .returned (.tuple #[(.agg #[.int .i64 (0), .int .i64 (0)]), .int .i64 2]) ∧ Below w.heap.size w w' := by
  go_enter Try.func16, Try.ntmps16
  go_wp2_with fail
  refine (isDayNumber_any n _).mono ?_
  rintro _ w1 ⟨rfl, b_w1⟩
  obtain ⟨c_w1, f_w1, z_w1⟩ := bfacts b_w1 (by first | (simp; rfl) | rfl)
  have y0_w1 : w.heap.size < w1.heap.size := (by omega)
  have k0_0_w1 : w1.cell? ⟨w.heap.size, 0, none⟩ = some (.int .i64 (0)) := (by first | exact (c_w1 _ _ (by omega)).trans (by go_simp) | go_simp)
  have l0_0_w1 : w1.frozen? ⟨w.heap.size, 0, none⟩ = false := (by first | exact (f_w1 _ _ (by omega)).trans (by go_simp) | go_simp)
  have k0_1_w1 : w1.cell? ⟨w.heap.size, 1, none⟩ = some (.int .i64 (0)) := (by first | exact (c_w1 _ _ (by omega)).trans (by go_simp) | go_simp)
  have l0_1_w1 : w1.frozen? ⟨w.heap.size, 1, none⟩ = false := (by first | exact (f_w1 _ _ (by omega)).trans (by go_simp) | go_simp)
  clear c_w1 f_w1
  go_wp2
  exact bodyPost_ret (v := .tuple #[(.agg #[.int .i64 (0), .int .i64 (0)]), .int .i64 2]) (by simp [results, Try.results16, go_sem, *]) rfl ⟨rfl, by (repeat' (first | with_reducible exact Below.refl _ _ | with_reducible refine Below.setCell ?_ ?_ _ | with_reducible refine Below.drew ?_ | with_reducible refine below_drewN ?_ _ | with_reducible refine Below.alloc ?_ ?_ _ | with_reducible refine below_step b_w1 ?_ ?_ | omega | (simp; done) | (simp; omega)))⟩
set_option maxHeartbeats 400000 in
theorem Declination_yes (n : Int) (w : World) (h : dayB n = true) :
    Calls Try.prog 16 #[.int .i64 n] w fun e w' => e = .returned (.tuple #[(.agg #[.int .i64 ((deI n).lo), .int .i64 ((deI n).hi)]), .int .i64 0]) ∧ Below w.heap.size w w' := by
  obtain ⟨n0, n1⟩ := dayB_t h
  go_enter Try.func16, Try.ntmps16
  go_wp2_with fail
  refine (isDayNumber_any n _).mono ?_
  rintro _ w1 ⟨rfl, b_w1⟩
  obtain ⟨c_w1, f_w1, z_w1⟩ := bfacts b_w1 (by first | (simp; rfl) | rfl)
  have y0_w1 : w.heap.size < w1.heap.size := (by omega)
  have k0_0_w1 : w1.cell? ⟨w.heap.size, 0, none⟩ = some (.int .i64 (0)) := (by first | exact (c_w1 _ _ (by omega)).trans (by go_simp) | go_simp)
  have l0_0_w1 : w1.frozen? ⟨w.heap.size, 0, none⟩ = false := (by first | exact (f_w1 _ _ (by omega)).trans (by go_simp) | go_simp)
  have k0_1_w1 : w1.cell? ⟨w.heap.size, 1, none⟩ = some (.int .i64 (0)) := (by first | exact (c_w1 _ _ (by omega)).trans (by go_simp) | go_simp)
  have l0_1_w1 : w1.frozen? ⟨w.heap.size, 1, none⟩ = false := (by first | exact (f_w1 _ _ (by omega)).trans (by go_simp) | go_simp)
  clear c_w1 f_w1
  go_wp2_with fail
  refine (declination_any n _ n0 n1).mono ?_
  rintro _ w2 ⟨rfl, b_w2⟩
  obtain ⟨c_w2, f_w2, z_w2⟩ := bfacts b_w2 (by first | (simp; rfl) | rfl)
  have y0_w2 : w.heap.size < w2.heap.size := (by omega)
  have k0_0_w2 : w2.cell? ⟨w.heap.size, 0, none⟩ = some (.int .i64 (0)) := (by first | exact (c_w2 _ _ (by omega)).trans (by go_simp) | go_simp)
  have l0_0_w2 : w2.frozen? ⟨w.heap.size, 0, none⟩ = false := (by first | exact (f_w2 _ _ (by omega)).trans (by go_simp) | go_simp)
  have k0_1_w2 : w2.cell? ⟨w.heap.size, 1, none⟩ = some (.int .i64 (0)) := (by first | exact (c_w2 _ _ (by omega)).trans (by go_simp) | go_simp)
  have l0_1_w2 : w2.frozen? ⟨w.heap.size, 1, none⟩ = false := (by first | exact (f_w2 _ _ (by omega)).trans (by go_simp) | go_simp)
  clear c_w2 f_w2
  go_wp2
  exact bodyPost_ret (v := .tuple #[(.agg #[.int .i64 ((deI n).lo), .int .i64 ((deI n).hi)]), .int .i64 0]) (by simp [results, Try.results16, go_sem, *]) rfl ⟨rfl, by (repeat' (first | with_reducible exact Below.refl _ _ | with_reducible refine Below.setCell ?_ ?_ _ | with_reducible refine Below.drew ?_ | with_reducible refine below_drewN ?_ _ | with_reducible refine Below.alloc ?_ ?_ _ | with_reducible refine below_step b_w2 ?_ ?_ | with_reducible refine below_step b_w1 ?_ ?_ | omega | (simp; done) | (simp; omega)))⟩


set_option maxHeartbeats 1000000 in
theorem SunOfDay_no (lat n m : Int) (w : World) (h : moB lat n m = false) :
    Calls Try.prog 24 #[.int .i64 lat, .int .i64 n, .int .i64 m] w fun e w' => e = .returned (.tuple #[(.agg #[.int .i64 (0), .int .i64 (0), .int .i64 (0), .int .i64 (0), .int .i64 (0), .int .i64 (0)]), .int .i64 2]) ∧ Below w.heap.size w w' := by
  cases p : inB lat (-324000) 324000
  · clear h
    go_enter Try.func24, Try.ntmps24
    go_wp2_with (go_at_call 50; refine (isLatitude_any _ _).mono ?_; rintro e w' ⟨rfl, rfl⟩)
    exact bodyPost_ret (v := .tuple #[(.agg #[.int .i64 (0), .int .i64 (0), .int .i64 (0), .int .i64 (0), .int .i64 (0), .int .i64 (0)]), .int .i64 2]) (by simp [results, Try.results24, go_sem, *]) rfl ⟨rfl, by (repeat' (first | with_reducible exact Below.refl _ _ | with_reducible assumption | with_reducible refine Below.setCell ?_ ?_ _ | with_reducible refine Below.drew ?_ | with_reducible refine below_drewN ?_ _ | with_reducible refine Below.alloc ?_ ?_ _ | with_reducible refine below_step (by assumption) ?_ ?_ | omega | exact Below.size (by assumption) | (simp; done) | (simp; omega)))⟩
  · cases q : dayB n
    · clear h
      go_enter Try.func24, Try.ntmps24
      go_wp2_with (go_at_call 50; refine (isLatitude_any _ _).mono ?_; rintro e w' ⟨rfl, rfl⟩)
      refine (isDayNumber_any n _).mono ?_
      rintro _ w1 ⟨rfl, b_w1⟩
      obtain ⟨c_w1, f_w1, z_w1⟩ := bfacts b_w1 (by first | (simp; rfl) | rfl)
      have y0_w1 : w.heap.size < w1.heap.size := (by omega)
      have k0_0_w1 : w1.cell? ⟨w.heap.size, 0, none⟩ = some (.int .i64 (0)) := (by first | exact (c_w1 _ _ (by omega)).trans (by go_simp) | go_simp)
      have l0_0_w1 : w1.frozen? ⟨w.heap.size, 0, none⟩ = false := (by first | exact (f_w1 _ _ (by omega)).trans (by go_simp) | go_simp)
      have k0_1_w1 : w1.cell? ⟨w.heap.size, 1, none⟩ = some (.int .i64 (0)) := (by first | exact (c_w1 _ _ (by omega)).trans (by go_simp) | go_simp)
      have l0_1_w1 : w1.frozen? ⟨w.heap.size, 1, none⟩ = false := (by first | exact (f_w1 _ _ (by omega)).trans (by go_simp) | go_simp)
      have k0_2_w1 : w1.cell? ⟨w.heap.size, 2, none⟩ = some (.int .i64 (0)) := (by first | exact (c_w1 _ _ (by omega)).trans (by go_simp) | go_simp)
      have l0_2_w1 : w1.frozen? ⟨w.heap.size, 2, none⟩ = false := (by first | exact (f_w1 _ _ (by omega)).trans (by go_simp) | go_simp)
      have k0_3_w1 : w1.cell? ⟨w.heap.size, 3, none⟩ = some (.int .i64 (0)) := (by first | exact (c_w1 _ _ (by omega)).trans (by go_simp) | go_simp)
      have l0_3_w1 : w1.frozen? ⟨w.heap.size, 3, none⟩ = false := (by first | exact (f_w1 _ _ (by omega)).trans (by go_simp) | go_simp)
      have k0_4_w1 : w1.cell? ⟨w.heap.size, 4, none⟩ = some (.int .i64 (0)) := (by first | exact (c_w1 _ _ (by omega)).trans (by go_simp) | go_simp)
      have l0_4_w1 : w1.frozen? ⟨w.heap.size, 4, none⟩ = false := (by first | exact (f_w1 _ _ (by omega)).trans (by go_simp) | go_simp)
      have k0_5_w1 : w1.cell? ⟨w.heap.size, 5, none⟩ = some (.int .i64 (0)) := (by first | exact (c_w1 _ _ (by omega)).trans (by go_simp) | go_simp)
      have l0_5_w1 : w1.frozen? ⟨w.heap.size, 5, none⟩ = false := (by first | exact (f_w1 _ _ (by omega)).trans (by go_simp) | go_simp)
      clear c_w1 f_w1
      go_wp2
      exact bodyPost_ret (v := .tuple #[(.agg #[.int .i64 (0), .int .i64 (0), .int .i64 (0), .int .i64 (0), .int .i64 (0), .int .i64 (0)]), .int .i64 2]) (by simp [results, Try.results24, go_sem, *]) rfl ⟨rfl, by (repeat' (first | with_reducible exact Below.refl _ _ | with_reducible refine Below.setCell ?_ ?_ _ | with_reducible refine Below.drew ?_ | with_reducible refine below_drewN ?_ _ | with_reducible refine Below.alloc ?_ ?_ _ | with_reducible refine below_step b_w1 ?_ ?_ | omega | (simp; done) | (simp; omega)))⟩
    · have r : inB m 0 1439 = false := by unfold moB at h; rw [p, q] at h; simpa using h
      clear h
      go_enter Try.func24, Try.ntmps24
      go_wp2_with (go_at_call 50; refine (isLatitude_any _ _).mono ?_; rintro e w' ⟨rfl, rfl⟩)
      refine (isDayNumber_any n _).mono ?_
      rintro _ w1 ⟨rfl, b_w1⟩
      obtain ⟨c_w1, f_w1, z_w1⟩ := bfacts b_w1 (by first | (simp; rfl) | rfl)
      have y0_w1 : w.heap.size < w1.heap.size := (by omega)
      have k0_0_w1 : w1.cell? ⟨w.heap.size, 0, none⟩ = some (.int .i64 (0)) := (by first | exact (c_w1 _ _ (by omega)).trans (by go_simp) | go_simp)
      have l0_0_w1 : w1.frozen? ⟨w.heap.size, 0, none⟩ = false := (by first | exact (f_w1 _ _ (by omega)).trans (by go_simp) | go_simp)
      have k0_1_w1 : w1.cell? ⟨w.heap.size, 1, none⟩ = some (.int .i64 (0)) := (by first | exact (c_w1 _ _ (by omega)).trans (by go_simp) | go_simp)
      have l0_1_w1 : w1.frozen? ⟨w.heap.size, 1, none⟩ = false := (by first | exact (f_w1 _ _ (by omega)).trans (by go_simp) | go_simp)
      have k0_2_w1 : w1.cell? ⟨w.heap.size, 2, none⟩ = some (.int .i64 (0)) := (by first | exact (c_w1 _ _ (by omega)).trans (by go_simp) | go_simp)
      have l0_2_w1 : w1.frozen? ⟨w.heap.size, 2, none⟩ = false := (by first | exact (f_w1 _ _ (by omega)).trans (by go_simp) | go_simp)
      have k0_3_w1 : w1.cell? ⟨w.heap.size, 3, none⟩ = some (.int .i64 (0)) := (by first | exact (c_w1 _ _ (by omega)).trans (by go_simp) | go_simp)
      have l0_3_w1 : w1.frozen? ⟨w.heap.size, 3, none⟩ = false := (by first | exact (f_w1 _ _ (by omega)).trans (by go_simp) | go_simp)
      have k0_4_w1 : w1.cell? ⟨w.heap.size, 4, none⟩ = some (.int .i64 (0)) := (by first | exact (c_w1 _ _ (by omega)).trans (by go_simp) | go_simp)
      have l0_4_w1 : w1.frozen? ⟨w.heap.size, 4, none⟩ = false := (by first | exact (f_w1 _ _ (by omega)).trans (by go_simp) | go_simp)
      have k0_5_w1 : w1.cell? ⟨w.heap.size, 5, none⟩ = some (.int .i64 (0)) := (by first | exact (c_w1 _ _ (by omega)).trans (by go_simp) | go_simp)
      have l0_5_w1 : w1.frozen? ⟨w.heap.size, 5, none⟩ = false := (by first | exact (f_w1 _ _ (by omega)).trans (by go_simp) | go_simp)
      clear c_w1 f_w1
      go_wp2_with (go_at_call 57; refine (isMinute_any _ _).mono ?_; rintro e w' ⟨rfl, rfl⟩)
      exact bodyPost_ret (v := .tuple #[(.agg #[.int .i64 (0), .int .i64 (0), .int .i64 (0), .int .i64 (0), .int .i64 (0), .int .i64 (0)]), .int .i64 2]) (by simp [results, Try.results24, go_sem, *]) rfl ⟨rfl, by (repeat' (first | with_reducible exact Below.refl _ _ | with_reducible refine Below.setCell ?_ ?_ _ | with_reducible refine Below.drew ?_ | with_reducible refine below_drewN ?_ _ | with_reducible refine Below.alloc ?_ ?_ _ | with_reducible refine below_step b_w1 ?_ ?_ | omega | (simp; done) | (simp; omega)))⟩
set_option maxHeartbeats 1000000 in
theorem SunOfDay_yes (lat n m : Int) (w : World) (h : moB lat n m = true) :
    Calls Try.prog 24 #[.int .i64 lat, .int .i64 n, .int .i64 m] w fun e w' => e = .returned (.tuple #[(.agg #[.int .i64 ((suV lat (deI n).lo (deI n).hi m).x.lo), .int .i64 ((suV lat (deI n).lo (deI n).hi m).x.hi), .int .i64 ((suV lat (deI n).lo (deI n).hi m).y.lo), .int .i64 ((suV lat (deI n).lo (deI n).hi m).y.hi), .int .i64 ((suV lat (deI n).lo (deI n).hi m).z.lo), .int .i64 ((suV lat (deI n).lo (deI n).hi m).z.hi)]), .int .i64 0]) ∧ Below w.heap.size w w' := by
  obtain ⟨l0, l1, n0, n1, m0, m1⟩ := moB_t h
  have dd := deI_bd n
  obtain ⟨p, q, r⟩ : inB lat (-324000) 324000 = true ∧ dayB n = true ∧ inB m 0 1439 = true := by unfold moB at h; simpa [Bool.and_eq_true] using h
  clear h
  have su := fun w => sunAt_any lat (deI n).lo (deI n).hi m w l0 l1 (by omega) (by omega) (by omega) (by omega) m0 m1
  generalize suV lat (deI n).lo (deI n).hi m = v at su ⊢
  have SU := Lib.hid su; clear su
  go_enter Try.func24, Try.ntmps24
  go_wp2_with (go_at_call 50; refine (isLatitude_any _ _).mono ?_; rintro e w' ⟨rfl, rfl⟩)
  refine (isDayNumber_any n _).mono ?_
  rintro _ w1 ⟨rfl, b_w1⟩
  obtain ⟨c_w1, f_w1, z_w1⟩ := bfacts b_w1 (by first | (simp; rfl) | rfl)
  have y0_w1 : w.heap.size < w1.heap.size := (by omega)
  have k0_0_w1 : w1.cell? ⟨w.heap.size, 0, none⟩ = some (.int .i64 (0)) := (by first | exact (c_w1 _ _ (by omega)).trans (by go_simp) | go_simp)
  have l0_0_w1 : w1.frozen? ⟨w.heap.size, 0, none⟩ = false := (by first | exact (f_w1 _ _ (by omega)).trans (by go_simp) | go_simp)
  have k0_1_w1 : w1.cell? ⟨w.heap.size, 1, none⟩ = some (.int .i64 (0)) := (by first | exact (c_w1 _ _ (by omega)).trans (by go_simp) | go_simp)
  have l0_1_w1 : w1.frozen? ⟨w.heap.size, 1, none⟩ = false := (by first | exact (f_w1 _ _ (by omega)).trans (by go_simp) | go_simp)
  have k0_2_w1 : w1.cell? ⟨w.heap.size, 2, none⟩ = some (.int .i64 (0)) := (by first | exact (c_w1 _ _ (by omega)).trans (by go_simp) | go_simp)
  have l0_2_w1 : w1.frozen? ⟨w.heap.size, 2, none⟩ = false := (by first | exact (f_w1 _ _ (by omega)).trans (by go_simp) | go_simp)
  have k0_3_w1 : w1.cell? ⟨w.heap.size, 3, none⟩ = some (.int .i64 (0)) := (by first | exact (c_w1 _ _ (by omega)).trans (by go_simp) | go_simp)
  have l0_3_w1 : w1.frozen? ⟨w.heap.size, 3, none⟩ = false := (by first | exact (f_w1 _ _ (by omega)).trans (by go_simp) | go_simp)
  have k0_4_w1 : w1.cell? ⟨w.heap.size, 4, none⟩ = some (.int .i64 (0)) := (by first | exact (c_w1 _ _ (by omega)).trans (by go_simp) | go_simp)
  have l0_4_w1 : w1.frozen? ⟨w.heap.size, 4, none⟩ = false := (by first | exact (f_w1 _ _ (by omega)).trans (by go_simp) | go_simp)
  have k0_5_w1 : w1.cell? ⟨w.heap.size, 5, none⟩ = some (.int .i64 (0)) := (by first | exact (c_w1 _ _ (by omega)).trans (by go_simp) | go_simp)
  have l0_5_w1 : w1.frozen? ⟨w.heap.size, 5, none⟩ = false := (by first | exact (f_w1 _ _ (by omega)).trans (by go_simp) | go_simp)
  clear c_w1 f_w1
  go_wp2_with (go_at_call 57; refine (isMinute_any _ _).mono ?_; rintro e w' ⟨rfl, rfl⟩)
  refine (declination_any n _ n0 n1).mono ?_
  rintro _ w2 ⟨rfl, b_w2⟩
  obtain ⟨c_w2, f_w2, z_w2⟩ := bfacts b_w2 (by first | (simp; rfl) | rfl)
  have y0_w2 : w.heap.size < w2.heap.size := (by omega)
  have k0_0_w2 : w2.cell? ⟨w.heap.size, 0, none⟩ = some (.int .i64 (0)) := (by first | exact (c_w2 _ _ (by omega)).trans (by go_simp) | go_simp)
  have l0_0_w2 : w2.frozen? ⟨w.heap.size, 0, none⟩ = false := (by first | exact (f_w2 _ _ (by omega)).trans (by go_simp) | go_simp)
  have k0_1_w2 : w2.cell? ⟨w.heap.size, 1, none⟩ = some (.int .i64 (0)) := (by first | exact (c_w2 _ _ (by omega)).trans (by go_simp) | go_simp)
  have l0_1_w2 : w2.frozen? ⟨w.heap.size, 1, none⟩ = false := (by first | exact (f_w2 _ _ (by omega)).trans (by go_simp) | go_simp)
  have k0_2_w2 : w2.cell? ⟨w.heap.size, 2, none⟩ = some (.int .i64 (0)) := (by first | exact (c_w2 _ _ (by omega)).trans (by go_simp) | go_simp)
  have l0_2_w2 : w2.frozen? ⟨w.heap.size, 2, none⟩ = false := (by first | exact (f_w2 _ _ (by omega)).trans (by go_simp) | go_simp)
  have k0_3_w2 : w2.cell? ⟨w.heap.size, 3, none⟩ = some (.int .i64 (0)) := (by first | exact (c_w2 _ _ (by omega)).trans (by go_simp) | go_simp)
  have l0_3_w2 : w2.frozen? ⟨w.heap.size, 3, none⟩ = false := (by first | exact (f_w2 _ _ (by omega)).trans (by go_simp) | go_simp)
  have k0_4_w2 : w2.cell? ⟨w.heap.size, 4, none⟩ = some (.int .i64 (0)) := (by first | exact (c_w2 _ _ (by omega)).trans (by go_simp) | go_simp)
  have l0_4_w2 : w2.frozen? ⟨w.heap.size, 4, none⟩ = false := (by first | exact (f_w2 _ _ (by omega)).trans (by go_simp) | go_simp)
  have k0_5_w2 : w2.cell? ⟨w.heap.size, 5, none⟩ = some (.int .i64 (0)) := (by first | exact (c_w2 _ _ (by omega)).trans (by go_simp) | go_simp)
  have l0_5_w2 : w2.frozen? ⟨w.heap.size, 5, none⟩ = false := (by first | exact (f_w2 _ _ (by omega)).trans (by go_simp) | go_simp)
  clear c_w2 f_w2
  go_wp2_with fail
  refine (SU.out _).mono ?_
  rintro _ w3 ⟨rfl, b_w3⟩
  obtain ⟨c_w3, f_w3, z_w3⟩ := bfacts b_w3 (by first | (simp; rfl) | rfl)
  have y0_w3 : w.heap.size < w3.heap.size := (by omega)
  have k0_0_w3 : w3.cell? ⟨w.heap.size, 0, none⟩ = some (.int .i64 (0)) := (by first | exact (c_w3 _ _ (by omega)).trans (by go_simp) | go_simp)
  have l0_0_w3 : w3.frozen? ⟨w.heap.size, 0, none⟩ = false := (by first | exact (f_w3 _ _ (by omega)).trans (by go_simp) | go_simp)
  have k0_1_w3 : w3.cell? ⟨w.heap.size, 1, none⟩ = some (.int .i64 (0)) := (by first | exact (c_w3 _ _ (by omega)).trans (by go_simp) | go_simp)
  have l0_1_w3 : w3.frozen? ⟨w.heap.size, 1, none⟩ = false := (by first | exact (f_w3 _ _ (by omega)).trans (by go_simp) | go_simp)
  have k0_2_w3 : w3.cell? ⟨w.heap.size, 2, none⟩ = some (.int .i64 (0)) := (by first | exact (c_w3 _ _ (by omega)).trans (by go_simp) | go_simp)
  have l0_2_w3 : w3.frozen? ⟨w.heap.size, 2, none⟩ = false := (by first | exact (f_w3 _ _ (by omega)).trans (by go_simp) | go_simp)
  have k0_3_w3 : w3.cell? ⟨w.heap.size, 3, none⟩ = some (.int .i64 (0)) := (by first | exact (c_w3 _ _ (by omega)).trans (by go_simp) | go_simp)
  have l0_3_w3 : w3.frozen? ⟨w.heap.size, 3, none⟩ = false := (by first | exact (f_w3 _ _ (by omega)).trans (by go_simp) | go_simp)
  have k0_4_w3 : w3.cell? ⟨w.heap.size, 4, none⟩ = some (.int .i64 (0)) := (by first | exact (c_w3 _ _ (by omega)).trans (by go_simp) | go_simp)
  have l0_4_w3 : w3.frozen? ⟨w.heap.size, 4, none⟩ = false := (by first | exact (f_w3 _ _ (by omega)).trans (by go_simp) | go_simp)
  have k0_5_w3 : w3.cell? ⟨w.heap.size, 5, none⟩ = some (.int .i64 (0)) := (by first | exact (c_w3 _ _ (by omega)).trans (by go_simp) | go_simp)
  have l0_5_w3 : w3.frozen? ⟨w.heap.size, 5, none⟩ = false := (by first | exact (f_w3 _ _ (by omega)).trans (by go_simp) | go_simp)
  clear c_w3 f_w3
  go_wp2
  exact bodyPost_ret (v := .tuple #[(.agg #[.int .i64 (v.x.lo), .int .i64 (v.x.hi), .int .i64 (v.y.lo), .int .i64 (v.y.hi), .int .i64 (v.z.lo), .int .i64 (v.z.hi)]), .int .i64 0]) (by simp [results, Try.results24, go_sem, *]) rfl ⟨rfl, by (repeat' (first | with_reducible exact Below.refl _ _ | with_reducible refine Below.setCell ?_ ?_ _ | with_reducible refine Below.drew ?_ | with_reducible refine below_drewN ?_ _ | with_reducible refine Below.alloc ?_ ?_ _ | with_reducible refine below_step b_w3 ?_ ?_ | with_reducible refine below_step b_w2 ?_ ?_ | with_reducible refine below_step b_w1 ?_ ?_ | omega | (simp; done) | (simp; omega)))⟩

set_option maxHeartbeats 1000000 in
theorem IsUpAt_no (lat n m : Int) (w : World) (h : moB lat n m = false) :
    Calls Try.prog 22 #[.int .i64 lat, .int .i64 n, .int .i64 m] w fun e w' => e = .returned (.tuple #[.int .i64 0, .int .i64 2]) ∧ Below w.heap.size w w' := by
  go_enter Try.func22, Try.ntmps22
  go_wp2_with fail
  refine (SunOfDay_no lat n m _ h).mono ?_
  rintro _ w1 ⟨rfl, b_w1⟩
  obtain ⟨c_w1, f_w1, z_w1⟩ := bfacts b_w1 (by first | (simp; rfl) | rfl)
  go_wp2
  exact bodyPost_ret (v := .tuple #[.int .i64 0, .int .i64 2]) (by simp [results, Try.results22, go_sem, *]) rfl ⟨rfl, by (repeat' (first | with_reducible exact Below.refl _ _ | with_reducible assumption | with_reducible refine Below.setCell ?_ ?_ _ | with_reducible refine Below.drew ?_ | with_reducible refine below_drewN ?_ _ | with_reducible refine Below.alloc ?_ ?_ _ | with_reducible refine below_step (by assumption) ?_ ?_ | omega | exact Below.size (by assumption) | (simp; done) | (simp; omega)))⟩
set_option maxHeartbeats 1000000 in
theorem IsUpAt_yes (lat n m : Int) (w : World) (h : moB lat n m = true) :
    Calls Try.prog 22 #[.int .i64 lat, .int .i64 n, .int .i64 m] w fun e w' => e = .returned (.tuple #[.int .i64 (sgI (suV lat (deI n).lo (deI n).hi m).z.lo (suV lat (deI n).lo (deI n).hi m).z.hi), .int .i64 0]) ∧ Below w.heap.size w w' := by
  have su := fun w => SunOfDay_yes lat n m w h
  generalize suV lat (deI n).lo (deI n).hi m = v at su ⊢
  have SU := Lib.hid su; clear su h
  rcases sgI_cases v.z.lo v.z.hi with ⟨t, e⟩ | ⟨t1, t2, e⟩ | ⟨t1, t2, e⟩
  all_goals
    have E := Lib.hid e
    clear e
    go_enter Try.func22, Try.ntmps22
    go_wp2_with fail
    refine (SU.out _).mono ?_
    rintro _ w1 ⟨rfl, b_w1⟩
    obtain ⟨c_w1, f_w1, z_w1⟩ := bfacts b_w1 (by first | (simp; rfl) | rfl)
    go_wp2
    refine bodyPost_ret (v := .tuple #[.int .i64 _, .int .i64 0]) (by simp [results, Try.results22, go_sem, *]; rfl) rfl ⟨by rw [E.out], by (repeat' (first | with_reducible exact Below.refl _ _ | with_reducible refine Below.setCell ?_ ?_ _ | with_reducible refine Below.drew ?_ | with_reducible refine below_drewN ?_ _ | with_reducible refine Below.alloc ?_ ?_ _ | with_reducible refine below_step b_w1 ?_ ?_ | omega | (simp; done) | (simp; omega)))⟩

set_option maxHeartbeats 1000000 in
theorem LightAt_any (lat n m h : Int) (w : World) :
    Calls Try.prog 27 #[.int .i64 lat, .int .i64 n, .int .i64 m, .int .i64 h] w fun e w' => e = .returned (.tuple #[.int .i64 (if raB lat n h && inB m 0 1439 then ltM lat (deI n).lo (deI n).hi h m else 0), .int .i64 (if raB lat n h && inB m 0 1439 then 0 else 2)]) ∧ Below w.heap.size w w' := by
  have re : ([h].all (fun h => inB h (-36000) 36000) && (inB lat (-324000) 324000 && dayB n)) = raB lat n h := by simp only [List.all_cons, List.all_nil, Bool.and_true]; unfold raB; cases inB h (-36000) 36000 <;> cases inB lat (-324000) 324000 <;> cases dayB n <;> rfl
  have se := fun g cap w a b => seen_any lat n [h] g cap w (by simp) a b
  simp only [re] at se
  have SE := Lib.hid se; clear se re
  cases p : raB lat n h
  · have hP : (false && inB m 0 1439) = true ↔ False := by simp
    simp only [hP, if_false]
    clear hP
    go_enter Try.func27, Try.ntmps27
    go_wp2_with fail
    refine (SE.out _ _ _ (by simp) (fun j hj => by have : j = 0 := (by simpa using hj); subst this; simp)).mono ?_
    rintro _ w1 ⟨rfl, b_w1⟩
    obtain ⟨c_w1, f_w1, z_w1⟩ := bfacts b_w1 (by first | (simp; rfl) | rfl); have y0_w1 : w.heap.size < w1.heap.size := (by omega)
    go_wp2
    exact bodyPost_ret (v := .tuple #[.int .i64 0, .int .i64 2]) (by simp [results, Try.results27, go_sem, *]) rfl ⟨rfl, by (repeat' (first | with_reducible exact Below.refl _ _ | with_reducible refine Below.setCell ?_ ?_ _ | with_reducible refine Below.drew ?_ | with_reducible refine below_drewN ?_ _ | with_reducible refine Below.alloc ?_ ?_ _ | with_reducible refine below_step b_w1 ?_ ?_ | omega | (simp; done) | (simp; omega)))⟩
  · obtain ⟨l0, l1, n0, n1, h0, h1⟩ := raB_t p
    have dd := deI_bd n
    cases q : inB m 0 1439
    · have hP : (true && false) = true ↔ False := by simp
      simp only [hP, if_false]
      clear hP
      go_enter Try.func27, Try.ntmps27
      go_wp2_with fail
      refine (SE.out _ _ _ (by simp) (fun j hj => by have : j = 0 := (by simpa using hj); subst this; simp)).mono ?_
      rintro _ w1 ⟨rfl, b_w1⟩
      obtain ⟨c_w1, f_w1, z_w1⟩ := bfacts b_w1 (by first | (simp; rfl) | rfl); have y0_w1 : w.heap.size < w1.heap.size := (by omega)
      go_wp2_with (go_at_call 57; refine (isMinute_any _ _).mono ?_; rintro e w' ⟨rfl, rfl⟩)
      exact bodyPost_ret (v := .tuple #[.int .i64 0, .int .i64 2]) (by simp [results, Try.results27, go_sem, *]) rfl ⟨rfl, by (repeat' (first | with_reducible exact Below.refl _ _ | with_reducible refine Below.setCell ?_ ?_ _ | with_reducible refine Below.drew ?_ | with_reducible refine below_drewN ?_ _ | with_reducible refine Below.alloc ?_ ?_ _ | with_reducible refine below_step b_w1 ?_ ?_ | omega | (simp; done) | (simp; omega)))⟩
    · have qq := inB_iff.1 q
      have hP : (true && true) = true ↔ True := by simp
      simp only [hP, if_true]
      clear hP
      have li := fun w => light_any lat (deI n).lo (deI n).hi h m w l0 l1 (by omega) (by omega) (by omega) (by omega) (by omega) (by omega) h0 h1
      have LI := Lib.hid li; clear li
      go_enter Try.func27, Try.ntmps27
      go_wp2_with fail
      refine (SE.out _ _ _ (by simp) (fun j hj => by have : j = 0 := (by simpa using hj); subst this; simp)).mono ?_
      rintro _ w1 ⟨rfl, b_w1⟩
      obtain ⟨c_w1, f_w1, z_w1⟩ := bfacts b_w1 (by first | (simp; rfl) | rfl); have y0_w1 : w.heap.size < w1.heap.size := (by omega)
      go_wp2_with (go_at_call 57; refine (isMinute_any _ _).mono ?_; rintro e w' ⟨rfl, rfl⟩)
      refine (declination_any n _ n0 n1).mono ?_
      rintro _ w2 ⟨rfl, b_w2⟩
      obtain ⟨c_w2, f_w2, z_w2⟩ := bfacts b_w2 (by first | (simp; rfl) | rfl)
      have y0_w2 : w.heap.size < w2.heap.size := (by omega)
      go_wp2_with fail
      refine (LI.out _).mono ?_
      rintro _ w3 ⟨rfl, b_w3⟩
      obtain ⟨c_w3, f_w3, z_w3⟩ := bfacts b_w3 (by first | (simp; rfl) | rfl)
      have y0_w3 : w.heap.size < w3.heap.size := (by omega)
      go_wp2
      exact bodyPost_ret (v := .tuple #[.int .i64 (ltM lat (deI n).lo (deI n).hi h m), .int .i64 0]) (by simp [results, Try.results27, go_sem, ltM, *]) rfl ⟨rfl, by (repeat' (first | with_reducible exact Below.refl _ _ | with_reducible refine Below.setCell ?_ ?_ _ | with_reducible refine Below.drew ?_ | with_reducible refine below_drewN ?_ _ | with_reducible refine Below.alloc ?_ ?_ _ | with_reducible refine below_step b_w3 ?_ ?_ | with_reducible refine below_step b_w2 ?_ ?_ | with_reducible refine below_step b_w1 ?_ ?_ | omega | (simp; done) | (simp; omega)))⟩


end Go.Proofs.Ytikmepppnechaaa
