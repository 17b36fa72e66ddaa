/- What the program's functions on longest days, twilight and lamps' errors return. -/
import Derived.Test.YtikmepppnechaaaC6
namespace Go.Proofs.Ytikmepppnechaaa
set_option linter.unusedVariables false
set_option linter.unusedSimpArgs false
open Go.RowKit


set_option maxHeartbeats 2000000 in
theorem LongestDay_no (lat a b h : Int) (w : World) (p : loB lat a b h = false) :
    Calls Try.prog 40 #[.int .i64 lat, .int .i64 a, .int .i64 b, .int .i64 h] w fun e w' => e = .returned (.tuple #[.int .i64 0, .int .i64 2]) ∧ Below w.heap.size w w' := by
  cases p1 : raB lat a h
  · clear p
    go_enter Try.func40, Try.ntmps40
    go_wp2_with fail
    refine (seen1_any lat a h _ _ _ (by simp) (by go_simp)).mono ?_
    rintro _ w1 ⟨rfl, b_w1⟩
    obtain ⟨c_w1, f_w1, z_w1⟩ := bfacts b_w1 (by first | (simp; rfl) | rfl)
    have y0_w1 : w.heap.size < w1.heap.size := (by omega)
    go_wp2
    exact bodyPost_ret (v := .tuple #[.int .i64 0, .int .i64 2]) (by simp [results, Try.results40, go_sem, *]) rfl ⟨rfl, by (repeat' (first | with_reducible exact Below.refl _ _ | with_reducible refine Below.setCell ?_ ?_ _ | with_reducible refine Below.drew ?_ | with_reducible refine below_drewN ?_ _ | with_reducible refine Below.alloc ?_ ?_ _ | with_reducible refine below_step b_w1 ?_ ?_ | omega | (simp; done) | (simp; omega)))⟩
  · cases p2 : dayB b
    · clear p
      go_enter Try.func40, Try.ntmps40
      go_wp2_with fail
      refine (seen1_any lat a h _ _ _ (by simp) (by go_simp)).mono ?_
      rintro _ w1 ⟨rfl, b_w1⟩
      obtain ⟨c_w1, f_w1, z_w1⟩ := bfacts b_w1 (by first | (simp; rfl) | rfl)
      have y0_w1 : w.heap.size < w1.heap.size := (by omega)
      go_wp2_with fail
      refine (isDayNumber_any b _).mono ?_
      rintro _ w2 ⟨rfl, b_w2⟩
      obtain ⟨c_w2, f_w2, z_w2⟩ := bfacts b_w2 (by first | (simp; rfl) | rfl)
      have y0_w2 : w.heap.size < w2.heap.size := (by omega)
      go_wp2
      exact bodyPost_ret (v := .tuple #[.int .i64 0, .int .i64 2]) (by simp [results, Try.results40, go_sem, *]) rfl ⟨rfl, by (repeat' (first | with_reducible exact Below.refl _ _ | with_reducible refine Below.setCell ?_ ?_ _ | with_reducible refine Below.drew ?_ | with_reducible refine below_drewN ?_ _ | with_reducible refine Below.alloc ?_ ?_ _ | with_reducible refine below_step b_w2 ?_ ?_ | with_reducible refine below_step b_w1 ?_ ?_ | omega | (simp; done) | (simp; omega)))⟩
    · have p3 : inB b a (a + 39) = false := by unfold loB at p; rw [p1, p2] at p; simpa using p
      obtain ⟨l0, l1, n0, n1, h0, h1⟩ := raB_t p1
      rcases inB_no p3 with q | q
      · clear p p3
        go_enter Try.func40, Try.ntmps40
        go_wp2_with fail
        refine (seen1_any lat a h _ _ _ (by simp) (by go_simp)).mono ?_
        rintro _ w1 ⟨rfl, b_w1⟩
        obtain ⟨c_w1, f_w1, z_w1⟩ := bfacts b_w1 (by first | (simp; rfl) | rfl)
        have y0_w1 : w.heap.size < w1.heap.size := (by omega)
        go_wp2_with fail
        refine (isDayNumber_any b _).mono ?_
        rintro _ w2 ⟨rfl, b_w2⟩
        obtain ⟨c_w2, f_w2, z_w2⟩ := bfacts b_w2 (by first | (simp; rfl) | rfl)
        have y0_w2 : w.heap.size < w2.heap.size := (by omega)
        go_wp2
        exact bodyPost_ret (v := .tuple #[.int .i64 0, .int .i64 2]) (by simp [results, Try.results40, go_sem, *]) rfl ⟨rfl, by (repeat' (first | with_reducible exact Below.refl _ _ | with_reducible refine Below.setCell ?_ ?_ _ | with_reducible refine Below.drew ?_ | with_reducible refine below_drewN ?_ _ | with_reducible refine Below.alloc ?_ ?_ _ | with_reducible refine below_step b_w2 ?_ ?_ | with_reducible refine below_step b_w1 ?_ ?_ | omega | (simp; done) | (simp; omega)))⟩
      · have q' : a + 40 ≤ b := by omega
        clear p p3
        go_enter Try.func40, Try.ntmps40
        go_wp2_with fail
        refine (seen1_any lat a h _ _ _ (by simp) (by go_simp)).mono ?_
        rintro _ w1 ⟨rfl, b_w1⟩
        obtain ⟨c_w1, f_w1, z_w1⟩ := bfacts b_w1 (by first | (simp; rfl) | rfl)
        have y0_w1 : w.heap.size < w1.heap.size := (by omega)
        go_wp2_with fail
        refine (isDayNumber_any b _).mono ?_
        rintro _ w2 ⟨rfl, b_w2⟩
        obtain ⟨c_w2, f_w2, z_w2⟩ := bfacts b_w2 (by first | (simp; rfl) | rfl)
        have y0_w2 : w.heap.size < w2.heap.size := (by omega)
        go_wp2
        exact bodyPost_ret (v := .tuple #[.int .i64 0, .int .i64 2]) (by simp [results, Try.results40, go_sem, *]) rfl ⟨rfl, by (repeat' (first | with_reducible exact Below.refl _ _ | with_reducible refine Below.setCell ?_ ?_ _ | with_reducible refine Below.drew ?_ | with_reducible refine below_drewN ?_ _ | with_reducible refine Below.alloc ?_ ?_ _ | with_reducible refine below_step b_w2 ?_ ?_ | with_reducible refine below_step b_w1 ?_ ?_ | omega | (simp; done) | (simp; omega)))⟩
set_option maxHeartbeats 4000000 in
theorem LongestDay_yes (lat a b h : Int) (w : World) (p : loB lat a b h = true) :
    Calls Try.prog 40 #[.int .i64 lat, .int .i64 a, .int .i64 b, .int .i64 h] w fun e w' => e = .returned (.tuple #[.int .i64 (a + (lgB (loG lat a h) (b - a + 1).toNat).1), .int .i64 0]) ∧ Below w.heap.size w w' := by
  obtain ⟨p1, p2, p3⟩ : raB lat a h = true ∧ dayB b = true ∧ inB b a (a + 39) = true := by unfold loB at p; simpa [Bool.and_eq_true] using p
  clear p
  obtain ⟨l0, l1, n0, n1, h0, h1⟩ := raB_t p1
  have q2 := dayB_w p2
  have q3 := inB_iff.1 p3
  obtain ⟨M, hM⟩ : ∃ M : Nat, M = 1440 := ⟨_, rfl⟩
  obtain ⟨F, G, D, li, co, gb, hG⟩ : ∃ (F : Nat → Nat → Int) (G D : Nat → Int), (∀ (i : Nat) w, (i : Int) ≤ b - a → Calls Try.prog 71 #[.int .i64 lat, .int .i64 (a + i), .int .i64 h] w fun e w' => ∃ g cap : Nat, e = .returned (.slice (some ⟨g, 0, none⟩) M cap) ∧ w.heap.size ≤ g ∧ g < w'.heap.size ∧ M ≤ cap ∧ cap ≤ maxLen ∧
      (∀ j : Nat, j < M → w'.cell? ⟨g, j, none⟩ = some (.int .i64 (F i j))) ∧ Below w.heap.size w w') ∧
      (∀ (i g cap : Nat) w, g < w.heap.size → (∀ j, j < M → w.cell? ⟨g, j, none⟩ = some (.int .i64 (F i j))) → Calls Try.prog 73 #[.slice (some ⟨g, 0, none⟩) M cap] w fun e w' => e = .returned (.agg #[.int .i64 (G i), .int .i64 (D i)]) ∧ Below w.heap.size w w') ∧ (∀ i, 0 ≤ G i ∧ G i ≤ 1440) ∧ G = loG lat a h :=
    ⟨fun i => dyM lat (a + i) h, loG lat a h, fun i => M - dnN (dyM lat (a + i) h) M, fun i w hi => by rw [hM]; exact lights_any lat (a + i) h w l0 l1 (by omega) (by omega) h0 h1,
      fun i g cap w hg hc => by
        have := counts_any (dyM lat (a + i) h) M g cap w (dyM_cases lat (a + i) h) (by omega) hg hc
        unfold loG; rw [← hM]; exact this, fun i => by have := upN_bd (dyM lat (a + i) h) 1440; unfold loG; omega, rfl⟩
  rw [← hG]
  have LI := Lib.hid li; have CO := Lib.hid co; have GB := Lib.hid gb; clear li co gb hG hM
  obtain ⟨N, hN⟩ : ∃ N : Nat, N = (b - a + 1).toNat := ⟨_, rfl⟩
  rw [← hN]
  have hN' : (N : Int) = b - a + 1 := by omega
  have HN := Lib.hid hN'; clear hN hN' p3
  go_enter Try.func40, Try.ntmps40
  go_wp2_with fail
  refine (seen1_any lat a h _ _ _ (by simp) (by go_simp)).mono ?_
  rintro _ w1 ⟨rfl, b_w1⟩
  obtain ⟨c_w1, f_w1, z_w1⟩ := bfacts b_w1 (by first | (simp; rfl) | rfl)
  have y0_w1 : w.heap.size < w1.heap.size := (by omega)
  have B1 : Below w.heap.size w w1 := by (repeat' (first | with_reducible exact Below.refl _ _ | with_reducible refine Below.setCell ?_ ?_ _ | with_reducible refine Below.drew ?_ | with_reducible refine below_drewN ?_ _ | with_reducible refine Below.alloc ?_ ?_ _ | with_reducible refine below_step b_w1 ?_ ?_ | omega | (simp; done) | (simp; omega)))
  have HB1 := Lib.hid B1; clear B1 b_w1
  go_wp2_with fail
  refine (isDayNumber_any b _).mono ?_
  rintro _ w2 ⟨rfl, b_w2⟩
  obtain ⟨c_w2, f_w2, z_w2⟩ := bfacts b_w2 (by first | (simp; rfl) | rfl)
  have y0_w2 : w.heap.size < w2.heap.size := (by omega)
  have HB2 := Lib.hid (HB1.out.trans (b_w2.mono (by omega))); clear HB1 b_w2
  go_wp2_with fail
  go_loopw [10, 11, 12] (fun u v k wr => ∃ i : Nat, a + i ≤ b + 1 ∧ k = .int .i64 (a + i) ∧ u = .int .i64 (a + (lgB G i).1) ∧ v = .int .i64 (lgB G i).2 ∧ Below w.heap.size w wr) (fun _ _ k _ => (b + 1 - intOf k).toNat)
  case atStart => exact ⟨0, by omega, by simp, by simp [lgB], by simp [lgB], HB2.out⟩
  case round =>
    obtain ⟨i, hle, rfl, rfl, rfl, b_wr⟩ := hrel
    have bB := lgB_bd G 1440 (by omega) GB.out i
    have bG := GB.out i
    have z_wr := b_wr.size
    have HB := Lib.hid b_wr; clear b_wr
    by_cases ht : a + (i : Int) ≤ b
    · go_wp2_with fail
      refine (LI.out i _ (by omega)).mono ?_
      rintro _ w3 ⟨g, cap, rfl, hg1, hg2, hg3, hg4, hg5, b_w3⟩
      have z_w3 := b_w3.size
      have H5 := Lib.hid hg5; clear hg5
      go_wp2_with fail
      refine (CO.out i g cap _ hg2 H5.out).mono ?_
      rintro _ w4 ⟨rfl, b_w4⟩
      obtain ⟨c_w4, f_w4, z_w4⟩ := bfacts b_w4 (by first | (simp; rfl) | rfl)
      have hb3 := Lib.hid ((HB.out.trans (b_w3.mono (by omega))).trans (b_w4.mono (by omega)))
      clear HB b_w3 b_w4
      by_cases u : G i > (lgB G i).2
      · go_wp2
        go_roundw
        case rel => exact ⟨i + 1, by omega, by simp; omega, by rw [lgB_yes (g := G) (k := i) (by omega)], by rw [lgB_yes (g := G) (k := i) (by omega)], hb3.out⟩
        case measure => simp [intOf]; omega
      · go_wp2
        go_roundw
        case rel => exact ⟨i + 1, by omega, by simp; omega, by rw [lgB_no (g := G) (k := i) (by omega)], by rw [lgB_no (g := G) (k := i) (by omega)], hb3.out⟩
        case measure => simp [intOf]; omega
    · have hi' : i = N := by have := HN.out; omega
      have HI := Lib.hid hi'; clear hi'
      go_wp2
      exact bodyPost_ret (v := .tuple #[.int .i64 (a + (lgB G N).1), .int .i64 0]) (by rw [← HI.out]; simp [results, Try.results40, go_sem, *]) rfl ⟨rfl, HB.out.trans (by (repeat' (first | with_reducible exact Below.refl _ _ | with_reducible assumption | with_reducible refine Below.setCell ?_ ?_ _ | with_reducible refine Below.drew ?_ | with_reducible refine below_drewN ?_ _ | with_reducible refine Below.alloc ?_ ?_ _ | with_reducible refine below_step (by assumption) ?_ ?_ | omega | exact Below.size (by assumption) | (simp; done) | (simp; omega))))⟩

set_option maxHeartbeats 400000 in
theorem isMoment_any (n m : Int) (w : World) :
    Calls Try.prog 52 #[(.agg #[.int .i64 (n), .int .i64 (m)])] w fun e w' => e = .returned (.bool (dayB n && inB m 0 1439)) ∧ Below w.heap.size w w' := by
  cases p : dayB n
  · go_enter Try.func52, Try.ntmps52
    go_wp2_with fail
    refine (isDayNumber_any n _).mono ?_
    rintro _ w1 ⟨rfl, b_w1⟩
    obtain ⟨c_w1, f_w1, z_w1⟩ := bfacts b_w1 (by first | (simp; rfl) | rfl)
    have y0_w1 : w.heap.size < w1.heap.size := (by omega)
    have k0_0_w1 : w1.cell? ⟨w.heap.size, 0, none⟩ = some (.int .i64 (n)) := (by first | exact (c_w1 _ _ (by omega)).trans (by go_simp) | go_simp)
    have l0_0_w1 : w1.frozen? ⟨w.heap.size, 0, none⟩ = false := (by first | exact (f_w1 _ _ (by omega)).trans (by go_simp) | go_simp)
    have k0_1_w1 : w1.cell? ⟨w.heap.size, 1, none⟩ = some (.int .i64 (m)) := (by first | exact (c_w1 _ _ (by omega)).trans (by go_simp) | go_simp)
    have l0_1_w1 : w1.frozen? ⟨w.heap.size, 1, none⟩ = false := (by first | exact (f_w1 _ _ (by omega)).trans (by go_simp) | go_simp)
    clear c_w1 f_w1
    go_wp2
    go_ret
    exact ⟨rfl, by (repeat' (first | with_reducible exact Below.refl _ _ | with_reducible refine Below.setCell ?_ ?_ _ | with_reducible refine Below.drew ?_ | with_reducible refine below_drewN ?_ _ | with_reducible refine Below.alloc ?_ ?_ _ | with_reducible refine below_step b_w1 ?_ ?_ | omega | (simp; done) | (simp; omega)))⟩
  · go_enter Try.func52, Try.ntmps52
    go_wp2_with fail
    refine (isDayNumber_any n _).mono ?_
    rintro _ w1 ⟨rfl, b_w1⟩
    obtain ⟨c_w1, f_w1, z_w1⟩ := bfacts b_w1 (by first | (simp; rfl) | rfl)
    have y0_w1 : w.heap.size < w1.heap.size := (by omega)
    have k0_0_w1 : w1.cell? ⟨w.heap.size, 0, none⟩ = some (.int .i64 (n)) := (by first | exact (c_w1 _ _ (by omega)).trans (by go_simp) | go_simp)
    have l0_0_w1 : w1.frozen? ⟨w.heap.size, 0, none⟩ = false := (by first | exact (f_w1 _ _ (by omega)).trans (by go_simp) | go_simp)
    have k0_1_w1 : w1.cell? ⟨w.heap.size, 1, none⟩ = some (.int .i64 (m)) := (by first | exact (c_w1 _ _ (by omega)).trans (by go_simp) | go_simp)
    have l0_1_w1 : w1.frozen? ⟨w.heap.size, 1, none⟩ = false := (by first | exact (f_w1 _ _ (by omega)).trans (by go_simp) | go_simp)
    clear c_w1 f_w1
    go_wp2_with (go_at_call 57; refine (isMinute_any _ _).mono ?_; rintro e w' ⟨rfl, rfl⟩)
    go_ret
    exact ⟨ret_bool (by simp), by (repeat' (first | with_reducible exact Below.refl _ _ | with_reducible refine Below.setCell ?_ ?_ _ | with_reducible refine Below.drew ?_ | with_reducible refine below_drewN ?_ _ | with_reducible refine Below.alloc ?_ ?_ _ | with_reducible refine below_step b_w1 ?_ ?_ | omega | (simp; done) | (simp; omega)))⟩

set_option maxHeartbeats 2000000 in
theorem LampError_no (lat n m d : Int) (w : World) (p : leB lat n m d = false) :
    Calls Try.prog 20 #[.int .i64 lat, (.agg #[.int .i64 (n), .int .i64 (m)]), .int .i64 d] w fun e w' => e = .returned (.tuple #[.int .i64 0, .int .i64 2]) ∧ Below w.heap.size w w' := by
  cases p1 : inB lat (-324000) 324000
  · clear p
    go_enter Try.func20, Try.ntmps20
    go_wp2_with (go_at_call 50; refine (isLatitude_any _ _).mono ?_; rintro e w' ⟨rfl, rfl⟩)
    exact bodyPost_ret (v := .tuple #[.int .i64 0, .int .i64 2]) (by simp [results, Try.results20, go_sem, *]) rfl ⟨rfl, by (repeat' (first | with_reducible exact Below.refl _ _ | with_reducible assumption | with_reducible refine Below.setCell ?_ ?_ _ | with_reducible refine Below.drew ?_ | with_reducible refine below_drewN ?_ _ | with_reducible refine Below.alloc ?_ ?_ _ | with_reducible refine below_step (by assumption) ?_ ?_ | omega | exact Below.size (by assumption) | (simp; done) | (simp; omega)))⟩
  · cases p2 : inB d 100 10000
    · clear p
      go_enter Try.func20, Try.ntmps20
      go_wp2_with (first | (go_at_call 50; refine (isLatitude_any _ _).mono ?_; rintro e w' ⟨rfl, rfl⟩) | (go_at_call 51; refine (in_any _ _ _ _).mono ?_; rintro e w' ⟨rfl, rfl⟩))
      exact bodyPost_ret (v := .tuple #[.int .i64 0, .int .i64 2]) (by simp [results, Try.results20, go_sem, *]) rfl ⟨rfl, by (repeat' (first | with_reducible exact Below.refl _ _ | with_reducible assumption | with_reducible refine Below.setCell ?_ ?_ _ | with_reducible refine Below.drew ?_ | with_reducible refine below_drewN ?_ _ | with_reducible refine Below.alloc ?_ ?_ _ | with_reducible refine below_step (by assumption) ?_ ?_ | omega | exact Below.size (by assumption) | (simp; done) | (simp; omega)))⟩
    · have p3 : (dayB n && inB m 0 1439) = false := by unfold leB moB at p; rw [p1, p2] at p; simpa using p
      have mo := fun w => isMoment_any n m w
      rw [p3] at mo
      have MO := Lib.hid mo
      clear p p3 mo
      go_enter Try.func20, Try.ntmps20
      go_wp2_with (first | (go_at_call 50; refine (isLatitude_any _ _).mono ?_; rintro e w' ⟨rfl, rfl⟩) | (go_at_call 51; refine (in_any _ _ _ _).mono ?_; rintro e w' ⟨rfl, rfl⟩))
      refine (MO.out _).mono ?_
      rintro _ w1 ⟨rfl, b_w1⟩
      obtain ⟨c_w1, f_w1, z_w1⟩ := bfacts b_w1 (by first | (simp; rfl) | rfl)
      have y0_w1 : w.heap.size < w1.heap.size := (by omega)
      have k0_0_w1 : w1.cell? ⟨w.heap.size, 0, none⟩ = some (.int .i64 (n)) := (by first | exact (c_w1 _ _ (by omega)).trans (by go_simp) | go_simp)
      have l0_0_w1 : w1.frozen? ⟨w.heap.size, 0, none⟩ = false := (by first | exact (f_w1 _ _ (by omega)).trans (by go_simp) | go_simp)
      have k0_1_w1 : w1.cell? ⟨w.heap.size, 1, none⟩ = some (.int .i64 (m)) := (by first | exact (c_w1 _ _ (by omega)).trans (by go_simp) | go_simp)
      have l0_1_w1 : w1.frozen? ⟨w.heap.size, 1, none⟩ = false := (by first | exact (f_w1 _ _ (by omega)).trans (by go_simp) | go_simp)
      clear c_w1 f_w1
      go_wp2
      exact bodyPost_ret (v := .tuple #[.int .i64 0, .int .i64 2]) (by simp [results, Try.results20, go_sem, *]) rfl ⟨rfl, by (repeat' (first | with_reducible exact Below.refl _ _ | with_reducible refine Below.setCell ?_ ?_ _ | with_reducible refine Below.drew ?_ | with_reducible refine below_drewN ?_ _ | with_reducible refine Below.alloc ?_ ?_ _ | with_reducible refine below_step b_w1 ?_ ?_ | omega | (simp; done) | (simp; omega)))⟩
set_option maxHeartbeats 2000000 in
theorem LampError_yes (lat n m d : Int) (w : World) (p : leB lat n m d = true) :
    Calls Try.prog 20 #[.int .i64 lat, (.agg #[.int .i64 (n), .int .i64 (m)]), .int .i64 d] w fun e w' => e = .returned (.tuple #[.int .i64 (laM (suV lat (deI n).lo (deI n).hi m) d), .int .i64 0]) ∧ Below w.heap.size w w' := by
  obtain ⟨p1, p2⟩ : moB lat n m = true ∧ inB d 100 10000 = true := by unfold leB at p; simpa [Bool.and_eq_true] using p
  obtain ⟨l0, l1, n0, n1, m0, m1⟩ := moB_t p1
  obtain ⟨p3, p4⟩ : inB lat (-324000) 324000 = true ∧ (dayB n && inB m 0 1439) = true := by unfold moB at p1; exact Bool.and_eq_true .. ▸ p1
  have q2 := inB_iff.1 p2
  have dd := deI_bd n
  have mo := fun w => isMoment_any n m w
  rw [p4] at mo
  have MO := Lib.hid mo
  have su := fun w => sunAt_any lat (deI n).lo (deI n).hi m w l0 l1 (by omega) (by omega) (by omega) (by omega) m0 m1
  have vb := suV_bd lat (deI n).lo (deI n).hi m
  have hl : laM (suV lat (deI n).lo (deI n).hi m) d = ceM (mx3 ((suV lat (deI n).lo (deI n).hi m).x.hi - (suV lat (deI n).lo (deI n).hi m).x.lo) ((suV lat (deI n).lo (deI n).hi m).y.hi - (suV lat (deI n).lo (deI n).hi m).y.lo) ((suV lat (deI n).lo (deI n).hi m).z.hi - (suV lat (deI n).lo (deI n).hi m).z.lo) * d) 1000000 + 1 := rfl
  rw [hl]
  clear hl
  generalize suV lat (deI n).lo (deI n).hi m = v at su vb ⊢
  obtain ⟨b1, b2, b3, b4, b5, b6, b7, b8, b9⟩ := vb
  obtain ⟨x, hx⟩ : ∃ x, mx3 (v.x.hi - v.x.lo) (v.y.hi - v.y.lo) (v.z.hi - v.z.lo) = x := ⟨_, rfl⟩
  have x0 : 0 ≤ x ∧ x ≤ 6000000 := by rw [← hx]; unfold mx3; omega
  rw [hx]
  have xm := mul_bd x0.1 x0.2 (show 0 ≤ d by omega) q2.2 rfl
  obtain ⟨x1, x2⟩ := x0
  obtain ⟨x3, x4⟩ := xm
  have SU := Lib.hid su; clear su p p1 mo p4
  go_enter Try.func20, Try.ntmps20
  go_wp2_with (first | (go_at_call 50; refine (isLatitude_any _ _).mono ?_; rintro e w' ⟨rfl, rfl⟩) | (go_at_call 51; refine (in_any _ _ _ _).mono ?_; rintro e w' ⟨rfl, rfl⟩))
  refine (MO.out _).mono ?_
  rintro _ w1 ⟨rfl, b_w1⟩
  obtain ⟨c_w1, f_w1, z_w1⟩ := bfacts b_w1 (by first | (simp; rfl) | rfl)
  have y0_w1 : w.heap.size < w1.heap.size := (by omega)
  have k0_0_w1 : w1.cell? ⟨w.heap.size, 0, none⟩ = some (.int .i64 (n)) := (by first | exact (c_w1 _ _ (by omega)).trans (by go_simp) | go_simp)
  have l0_0_w1 : w1.frozen? ⟨w.heap.size, 0, none⟩ = false := (by first | exact (f_w1 _ _ (by omega)).trans (by go_simp) | go_simp)
  have k0_1_w1 : w1.cell? ⟨w.heap.size, 1, none⟩ = some (.int .i64 (m)) := (by first | exact (c_w1 _ _ (by omega)).trans (by go_simp) | go_simp)
  have l0_1_w1 : w1.frozen? ⟨w.heap.size, 1, none⟩ = false := (by first | exact (f_w1 _ _ (by omega)).trans (by go_simp) | go_simp)
  clear c_w1 f_w1
  go_wp2_with fail
  refine wp_region_bl2 8 (fun w' => w'.cell? ⟨w.heap.size, 0, none⟩ = some (.int .i64 (n)) ∧ w'.cell? ⟨w.heap.size, 1, none⟩ = some (.int .i64 (m))) (by kernel_rfl) (by kernel_rfl) (by rfl) (fun w' hw' => ?_) (fun hS => ?_)
  focus exact ⟨(hw'.cell (p := ⟨w.heap.size, 0, none⟩) (by first | omega | (simp; done) | (simp; omega))).trans (by go_simp), (hw'.cell (p := ⟨w.heap.size, 1, none⟩) (by first | omega | (simp; done) | (simp; omega))).trans (by go_simp)⟩
  have HS := Lib.hid hS; clear hS
  simp only [List.take_succ_cons, List.take_zero, List.drop_succ_cons, List.drop_zero]
  repeat (first | (refine wpBl_op ?_ ?_ (fun K hK => ?_); (focus rfl); (focus rfl); apply Exists.intro; refine ⟨fun w' hw' => ?_, ?_⟩; (focus (first | (go_simp; first | (go_at_call 46; exact declination_any _ _ n0 n1) | (go_at_call 53; exact SU.out _)) | (obtain ⟨kr0, kr1⟩ := HS.out w' hw'; go_simp; rfl))); go_simp; refine hK _ ?_; clear hK K) | (refine wpBl_mk ?_ ?_ (fun K hK => ⟨fun g => .pointer (some ⟨g, 0, none⟩), ?_⟩); (focus rfl); (focus rfl); apply Exists.intro; refine ⟨fun w' => ?_, ?_⟩; (focus (go_simp; rfl)); go_simp; refine hK _ _ _ ?_; clear hK K) | (refine wpBl_no ?_ ?_ (fun K hK => ?_); (focus rfl); (focus rfl); go_simp; refine hK _ ?_; clear hK K))
  refine wpBl_end (fun w2 b_w2 => TailW_cons (fun g0_w2 h0_w2 k0_w2 n0_w2 => TailW_nil ?_))
  obtain ⟨c_w2, f_w2, z_w2⟩ := bfacts b_w2 (by first | (simp; rfl) | rfl)
  obtain ⟨cg0_w2, fg0_w2, zg0_w2⟩ := blk_facts k0_w2
  (try simp at h0_w2)
  (try simp at n0_w2)
  clear k0_w2
  have y0_w2 : g0_w2 < w2.heap.size := (by omega)
  have k0_0_w2 : w2.cell? ⟨g0_w2, 0, none⟩ = some (.int .i64 (0)) := (by first | exact (c_w2 _ _ (by omega)).trans (by go_simp) | go_simp)
  have l0_0_w2 : w2.frozen? ⟨g0_w2, 0, none⟩ = false := (by first | exact (f_w2 _ _ (by omega)).trans (by go_simp) | go_simp)
  have k0_1_w2 : w2.cell? ⟨g0_w2, 1, none⟩ = some (.int .i64 (0)) := (by first | exact (c_w2 _ _ (by omega)).trans (by go_simp) | go_simp)
  have l0_1_w2 : w2.frozen? ⟨g0_w2, 1, none⟩ = false := (by first | exact (f_w2 _ _ (by omega)).trans (by go_simp) | go_simp)
  have k0_2_w2 : w2.cell? ⟨g0_w2, 2, none⟩ = some (.int .i64 (0)) := (by first | exact (c_w2 _ _ (by omega)).trans (by go_simp) | go_simp)
  have l0_2_w2 : w2.frozen? ⟨g0_w2, 2, none⟩ = false := (by first | exact (f_w2 _ _ (by omega)).trans (by go_simp) | go_simp)
  have k0_3_w2 : w2.cell? ⟨g0_w2, 3, none⟩ = some (.int .i64 (0)) := (by first | exact (c_w2 _ _ (by omega)).trans (by go_simp) | go_simp)
  have l0_3_w2 : w2.frozen? ⟨g0_w2, 3, none⟩ = false := (by first | exact (f_w2 _ _ (by omega)).trans (by go_simp) | go_simp)
  have k0_4_w2 : w2.cell? ⟨g0_w2, 4, none⟩ = some (.int .i64 (0)) := (by first | exact (c_w2 _ _ (by omega)).trans (by go_simp) | go_simp)
  have l0_4_w2 : w2.frozen? ⟨g0_w2, 4, none⟩ = false := (by first | exact (f_w2 _ _ (by omega)).trans (by go_simp) | go_simp)
  have k0_5_w2 : w2.cell? ⟨g0_w2, 5, none⟩ = some (.int .i64 (0)) := (by first | exact (c_w2 _ _ (by omega)).trans (by go_simp) | go_simp)
  have l0_5_w2 : w2.frozen? ⟨g0_w2, 5, none⟩ = false := (by first | exact (f_w2 _ _ (by omega)).trans (by go_simp) | go_simp)
  clear c_w2 f_w2 cg0_w2 fg0_w2
  clear HS
  go_simp
  go_wp2_with (go_at_call 54; refine (ceil_pos _ _ _ (by omega) (by omega) (by omega) (by omega)).mono ?_; rintro e w' ⟨rfl, rfl⟩)
  exact bodyPost_ret (v := .tuple #[.int .i64 (ceM (x * d) 1000000 + 1), .int .i64 0]) (by simp [results, Try.results20, go_sem, ceM, *]) rfl ⟨rfl, by (repeat' (first | with_reducible exact Below.refl _ _ | with_reducible refine Below.setCell ?_ ?_ _ | with_reducible refine Below.drew ?_ | with_reducible refine below_drewN ?_ _ | with_reducible refine Below.alloc ?_ ?_ _ | with_reducible refine below_step b_w2 ?_ ?_ | with_reducible refine below_step b_w1 ?_ ?_ | omega | (simp; done) | (simp; omega)))⟩


end Go.Proofs.Ytikmepppnechaaa
