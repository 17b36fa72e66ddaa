/- What the program's functions on rise, set and the minutes of a day return. -/
import Derived.Test.YtikmepppnechaaaC5
namespace Go.Proofs.Ytikmepppnechaaa
set_option linter.unusedVariables false
set_option linter.unusedSimpArgs false
open Go.RowKit


set_option maxHeartbeats 1000000 in
theorem UpMinutes_no (lat n h : Int) (w : World) (p : raB lat n h = false) :
    Calls Try.prog 36 #[.int .i64 lat, .int .i64 n, .int .i64 h] w fun e w' => e = .returned (.tuple #[(.agg #[.int .i64 (0), .int .i64 (0)]), .int .i64 2]) ∧ Below w.heap.size w w' := by
  go_enter Try.func36, Try.ntmps36
  go_wp2_with fail
  refine (seen1_any lat n h _ _ _ (by simp) (by go_simp)).mono ?_
  rintro _ w1 ⟨rfl, b_w1⟩
  obtain ⟨c_w1, f_w1, z_w1⟩ := bfacts b_w1 (by first | (simp; rfl) | rfl)
  have y0_w1 : w.heap.size < w1.heap.size := (by omega)
  have k0_0_w1 : w1.cell? ⟨w.heap.size, 0, none⟩ = some (.int .i64 (0)) := (by first | exact (c_w1 _ _ (by omega)).trans (by go_simp) | go_simp)
  have l0_0_w1 : w1.frozen? ⟨w.heap.size, 0, none⟩ = false := (by first | exact (f_w1 _ _ (by omega)).trans (by go_simp) | go_simp)
  have k0_1_w1 : w1.cell? ⟨w.heap.size, 1, none⟩ = some (.int .i64 (0)) := (by first | exact (c_w1 _ _ (by omega)).trans (by go_simp) | go_simp)
  have l0_1_w1 : w1.frozen? ⟨w.heap.size, 1, none⟩ = false := (by first | exact (f_w1 _ _ (by omega)).trans (by go_simp) | go_simp)
  clear c_w1 f_w1
  go_wp2
  exact bodyPost_ret (v := .tuple #[(.agg #[.int .i64 (0), .int .i64 (0)]), .int .i64 2]) (by simp [results, Try.results36, go_sem, *]) rfl ⟨rfl, by (repeat' (first | with_reducible exact Below.refl _ _ | with_reducible refine Below.setCell ?_ ?_ _ | with_reducible refine Below.drew ?_ | with_reducible refine below_drewN ?_ _ | with_reducible refine Below.alloc ?_ ?_ _ | with_reducible refine below_step b_w1 ?_ ?_ | omega | (simp; done) | (simp; omega)))⟩
set_option maxHeartbeats 1000000 in
theorem UpMinutes_yes (lat n h : Int) (w : World) (p : raB lat n h = true) :
    Calls Try.prog 36 #[.int .i64 lat, .int .i64 n, .int .i64 h] w fun e w' => e = .returned (.tuple #[(.agg #[.int .i64 (upN (dyM lat n h) 1440), .int .i64 (1440 - dnN (dyM lat n h) 1440)]), .int .i64 0]) ∧ Below w.heap.size w w' := by
  obtain ⟨l0, l1, n0, n1, h0, h1⟩ := raB_t p
  obtain ⟨M, hM⟩ : ∃ M : Nat, M = 1440 := ⟨_, rfl⟩
  obtain ⟨f, u, d, li, co, hu, hd⟩ : ∃ (f : Nat → Int) (u d : Int), (∀ w, Calls Try.prog 71 #[.int .i64 lat, .int .i64 n, .int .i64 h] w fun e w' => ∃ g cap : Nat, e = .returned (.slice (some ⟨g, 0, none⟩) M cap) ∧ w.heap.size ≤ g ∧ g < w'.heap.size ∧ M ≤ cap ∧ cap ≤ maxLen ∧
      (∀ j : Nat, j < M → w'.cell? ⟨g, j, none⟩ = some (.int .i64 (f j))) ∧ Below w.heap.size w w') ∧
      (∀ (g cap : Nat) w, g < w.heap.size → (∀ j, j < M → w.cell? ⟨g, j, none⟩ = some (.int .i64 (f j))) → Calls Try.prog 73 #[.slice (some ⟨g, 0, none⟩) M cap] w fun e w' => e = .returned (.agg #[.int .i64 (u), .int .i64 (d)]) ∧ Below w.heap.size w w') ∧ u = upN (dyM lat n h) 1440 ∧ d = 1440 - dnN (dyM lat n h) 1440 :=
    ⟨dyM lat n h, _, _, fun w => by rw [hM]; exact lights_any lat n h w l0 l1 n0 n1 h0 h1, fun g cap w hg hc => counts_any (dyM lat n h) M g cap w (dyM_cases lat n h) (by omega) hg hc, by rw [hM], by rw [hM]; rfl⟩
  rw [← hu, ← hd]
  have LI := Lib.hid li; have CO := Lib.hid co; clear li co hu hd hM
  go_enter Try.func36, Try.ntmps36
  go_wp2_with fail
  refine (seen1_any lat n h _ _ _ (by simp) (by go_simp)).mono ?_
  rintro _ w1 ⟨rfl, b_w1⟩
  obtain ⟨c_w1, f_w1, z_w1⟩ := bfacts b_w1 (by first | (simp; rfl) | rfl)
  have y0_w1 : w.heap.size < w1.heap.size := (by omega)
  have k0_0_w1 : w1.cell? ⟨w.heap.size, 0, none⟩ = some (.int .i64 (0)) := (by first | exact (c_w1 _ _ (by omega)).trans (by go_simp) | go_simp)
  have l0_0_w1 : w1.frozen? ⟨w.heap.size, 0, none⟩ = false := (by first | exact (f_w1 _ _ (by omega)).trans (by go_simp) | go_simp)
  have k0_1_w1 : w1.cell? ⟨w.heap.size, 1, none⟩ = some (.int .i64 (0)) := (by first | exact (c_w1 _ _ (by omega)).trans (by go_simp) | go_simp)
  have l0_1_w1 : w1.frozen? ⟨w.heap.size, 1, none⟩ = false := (by first | exact (f_w1 _ _ (by omega)).trans (by go_simp) | go_simp)
  clear c_w1 f_w1
  go_wp2_with fail
  refine (LI.out _).mono ?_
  rintro _ w2 ⟨g, cap, rfl, hg1, hg2, hg3, hg4, hg5, b_w2⟩
  obtain ⟨c_w2, f_w2, z_w2⟩ := bfacts b_w2 (by first | (simp; rfl) | rfl); have y0_w2 : w.heap.size < w2.heap.size := (by omega); have k0_0_w2 : w2.cell? ⟨w.heap.size, 0, none⟩ = some (.int .i64 (0)) := (by first | exact (c_w2 _ _ (by omega)).trans (by go_simp) | go_simp); have l0_0_w2 : w2.frozen? ⟨w.heap.size, 0, none⟩ = false := (by first | exact (f_w2 _ _ (by omega)).trans (by go_simp) | go_simp); have k0_1_w2 : w2.cell? ⟨w.heap.size, 1, none⟩ = some (.int .i64 (0)) := (by first | exact (c_w2 _ _ (by omega)).trans (by go_simp) | go_simp); have l0_1_w2 : w2.frozen? ⟨w.heap.size, 1, none⟩ = false := (by first | exact (f_w2 _ _ (by omega)).trans (by go_simp) | go_simp); clear c_w2 f_w2
  have H5 := Lib.hid hg5; clear hg5
  go_wp2_with fail
  refine (CO.out g cap _ hg2 H5.out).mono ?_
  rintro _ w3 ⟨rfl, b_w3⟩
  obtain ⟨c_w3, f_w3, z_w3⟩ := bfacts b_w3 (by first | (simp; rfl) | rfl)
  have y0_w3 : w.heap.size < w3.heap.size := (by omega)
  have k0_0_w3 : w3.cell? ⟨w.heap.size, 0, none⟩ = some (.int .i64 (0)) := (by first | exact (c_w3 _ _ (by omega)).trans (by go_simp) | go_simp)
  have l0_0_w3 : w3.frozen? ⟨w.heap.size, 0, none⟩ = false := (by first | exact (f_w3 _ _ (by omega)).trans (by go_simp) | go_simp)
  have k0_1_w3 : w3.cell? ⟨w.heap.size, 1, none⟩ = some (.int .i64 (0)) := (by first | exact (c_w3 _ _ (by omega)).trans (by go_simp) | go_simp)
  have l0_1_w3 : w3.frozen? ⟨w.heap.size, 1, none⟩ = false := (by first | exact (f_w3 _ _ (by omega)).trans (by go_simp) | go_simp)
  clear c_w3 f_w3
  go_wp2
  exact bodyPost_ret (v := .tuple #[(.agg #[.int .i64 (u), .int .i64 (d)]), .int .i64 0]) (by simp [results, Try.results36, go_sem, *]) rfl ⟨rfl, by (repeat' (first | with_reducible exact Below.refl _ _ | with_reducible refine Below.setCell ?_ ?_ _ | with_reducible refine Below.drew ?_ | with_reducible refine below_drewN ?_ _ | with_reducible refine Below.alloc ?_ ?_ _ | with_reducible refine below_step b_w3 ?_ ?_ | with_reducible refine below_step b_w2 ?_ ?_ | with_reducible refine below_step b_w1 ?_ ?_ | omega | (simp; done) | (simp; omega)))⟩

set_option maxHeartbeats 1000000 in
theorem DayKind_no (lat n h : Int) (w : World) (p : raB lat n h = false) :
    Calls Try.prog 42 #[.int .i64 lat, .int .i64 n, .int .i64 h] w fun e w' => e = .returned (.tuple #[.int .i64 0, .int .i64 2]) ∧ Below w.heap.size w w' := by
  go_enter Try.func42, Try.ntmps42
  go_wp2_with fail
  refine (UpMinutes_no lat n h _ p).mono ?_
  rintro _ w1 ⟨rfl, b_w1⟩
  obtain ⟨c_w1, f_w1, z_w1⟩ := bfacts b_w1 (by first | (simp; rfl) | rfl)
  go_wp2
  exact bodyPost_ret (v := .tuple #[.int .i64 0, .int .i64 2]) (by simp [results, Try.results42, go_sem, *]) rfl ⟨rfl, by (repeat' (first | with_reducible exact Below.refl _ _ | with_reducible refine Below.setCell ?_ ?_ _ | with_reducible refine Below.drew ?_ | with_reducible refine below_drewN ?_ _ | with_reducible refine Below.alloc ?_ ?_ _ | with_reducible refine below_step b_w1 ?_ ?_ | omega | (simp; done) | (simp; omega)))⟩
set_option maxHeartbeats 1000000 in
theorem DayKind_yes (lat n h : Int) (w : World) (p : raB lat n h = true) :
    Calls Try.prog 42 #[.int .i64 lat, .int .i64 n, .int .i64 h] w fun e w' => e = .returned (.tuple #[.int .i64 (kiM (upN (dyM lat n h) 1440) (dnN (dyM lat n h) 1440)), .int .i64 0]) ∧ Below w.heap.size w w' := by
  have co := fun w => UpMinutes_yes lat n h w p
  generalize upN (dyM lat n h) 1440 = u at co ⊢
  generalize dnN (dyM lat n h) 1440 = d at co ⊢
  have CO := Lib.hid co; clear co
  rcases kiM_cases u d with ⟨t, e⟩ | ⟨t1, t2, e⟩ | ⟨t1, t2, e⟩
  · have E := Lib.hid e; clear e
    go_enter Try.func42, Try.ntmps42
    go_wp2_with fail
    refine (CO.out _).mono ?_
    rintro _ w1 ⟨rfl, b_w1⟩
    obtain ⟨c_w1, f_w1, z_w1⟩ := bfacts b_w1 (by first | (simp; rfl) | rfl)
    go_wp2
    exact bodyPost_ret (v := .tuple #[.int .i64 (kiM u d), .int .i64 0]) (by rw [E.out]; simp [results, Try.results42, go_sem]) rfl ⟨rfl, by (repeat' (first | with_reducible exact Below.refl _ _ | with_reducible refine Below.setCell ?_ ?_ _ | with_reducible refine Below.drew ?_ | with_reducible refine below_drewN ?_ _ | with_reducible refine Below.alloc ?_ ?_ _ | with_reducible refine below_step b_w1 ?_ ?_ | omega | (simp; done) | (simp; omega)))⟩
  · have E := Lib.hid e; clear e
    have s : (1440 : Int) - d = 0 := by omega
    go_enter Try.func42, Try.ntmps42
    go_wp2_with fail
    refine (CO.out _).mono ?_
    rintro _ w1 ⟨rfl, b_w1⟩
    obtain ⟨c_w1, f_w1, z_w1⟩ := bfacts b_w1 (by first | (simp; rfl) | rfl)
    go_wp2
    exact bodyPost_ret (v := .tuple #[.int .i64 (kiM u d), .int .i64 0]) (by rw [E.out]; simp [results, Try.results42, go_sem]) rfl ⟨rfl, by (repeat' (first | with_reducible exact Below.refl _ _ | with_reducible refine Below.setCell ?_ ?_ _ | with_reducible refine Below.drew ?_ | with_reducible refine below_drewN ?_ _ | with_reducible refine Below.alloc ?_ ?_ _ | with_reducible refine below_step b_w1 ?_ ?_ | omega | (simp; done) | (simp; omega)))⟩
  · have E := Lib.hid e; clear e
    have s : ¬ (1440 : Int) - d = 0 := by omega
    go_enter Try.func42, Try.ntmps42
    go_wp2_with fail
    refine (CO.out _).mono ?_
    rintro _ w1 ⟨rfl, b_w1⟩
    obtain ⟨c_w1, f_w1, z_w1⟩ := bfacts b_w1 (by first | (simp; rfl) | rfl)
    go_wp2
    exact bodyPost_ret (v := .tuple #[.int .i64 (kiM u d), .int .i64 0]) (by rw [E.out]; simp [results, Try.results42, go_sem]) rfl ⟨rfl, by (repeat' (first | with_reducible exact Below.refl _ _ | with_reducible refine Below.setCell ?_ ?_ _ | with_reducible refine Below.drew ?_ | with_reducible refine below_drewN ?_ _ | with_reducible refine Below.alloc ?_ ?_ _ | with_reducible refine below_step b_w1 ?_ ?_ | omega | (simp; done) | (simp; omega)))⟩

set_option maxHeartbeats 1000000 in
theorem RiseBounds_no (lat n h : Int) (w : World) (p : raB lat n h = false) :
    Calls Try.prog 38 #[.int .i64 lat, .int .i64 n, .int .i64 h] w fun e w' => e = .returned (.tuple #[(.agg #[.int .i64 (0), .int .i64 (0)]), .int .i64 2]) ∧ Below w.heap.size w w' := by
  go_enter Try.func38, Try.ntmps38
  go_wp2_with fail
  refine (seen1_any lat n h _ _ _ (by simp) (by go_simp)).mono ?_
  rintro _ w1 ⟨rfl, b_w1⟩
  obtain ⟨c_w1, f_w1, z_w1⟩ := bfacts b_w1 (by first | (simp; rfl) | rfl)
  have y0_w1 : w.heap.size < w1.heap.size := (by omega)
  have k0_0_w1 : w1.cell? ⟨w.heap.size, 0, none⟩ = some (.int .i64 (0)) := (by first | exact (c_w1 _ _ (by omega)).trans (by go_simp) | go_simp)
  have l0_0_w1 : w1.frozen? ⟨w.heap.size, 0, none⟩ = false := (by first | exact (f_w1 _ _ (by omega)).trans (by go_simp) | go_simp)
  have k0_1_w1 : w1.cell? ⟨w.heap.size, 1, none⟩ = some (.int .i64 (0)) := (by first | exact (c_w1 _ _ (by omega)).trans (by go_simp) | go_simp)
  have l0_1_w1 : w1.frozen? ⟨w.heap.size, 1, none⟩ = false := (by first | exact (f_w1 _ _ (by omega)).trans (by go_simp) | go_simp)
  clear c_w1 f_w1
  go_wp2
  exact bodyPost_ret (v := .tuple #[(.agg #[.int .i64 (0), .int .i64 (0)]), .int .i64 2]) (by simp [results, Try.results38, go_sem, *]) rfl ⟨rfl, by (repeat' (first | with_reducible exact Below.refl _ _ | with_reducible refine Below.setCell ?_ ?_ _ | with_reducible refine Below.drew ?_ | with_reducible refine below_drewN ?_ _ | with_reducible refine Below.alloc ?_ ?_ _ | with_reducible refine below_step b_w1 ?_ ?_ | omega | (simp; done) | (simp; omega)))⟩
set_option maxRecDepth 100000 in
set_option maxHeartbeats 4000000 in
theorem RiseBounds_yes (lat n h : Int) (w : World) (p : raB lat n h = true) :
    Calls Try.prog 38 #[.int .i64 lat, .int .i64 n, .int .i64 h] w fun e w' => e = .returned (.tuple #[(.agg #[.int .i64 ((riD (dyM lat n h) 721).lo), .int .i64 ((riD (dyM lat n h) 721).hi)]), .int .i64 (riD (dyM lat n h) 721).code]) ∧ Below w.heap.size w w' := by
  obtain ⟨l0, l1, n0, n1, h0, h1⟩ := raB_t p
  have li := fun w => lights_any lat n h w l0 l1 n0 n1 h0 h1
  have fc := dyM_cases lat n h
  generalize dyM lat n h = f at li fc ⊢
  have LI := Lib.hid li; have FC := Lib.hid fc; clear li fc
  obtain ⟨N, hN⟩ : ∃ N : Nat, N = 721 := ⟨_, rfl⟩
  rw [← hN]
  have HN := Lib.hid hN; clear hN
  go_enter Try.func38, Try.ntmps38
  go_wp2_with fail
  refine (seen1_any lat n h _ _ _ (by simp) (by go_simp)).mono ?_
  rintro _ w1 ⟨rfl, b_w1⟩
  obtain ⟨c_w1, f_w1, z_w1⟩ := bfacts b_w1 (by first | (simp; rfl) | rfl)
  have y0_w1 : w.heap.size < w1.heap.size := (by omega)
  have k0_0_w1 : w1.cell? ⟨w.heap.size, 0, none⟩ = some (.int .i64 (0)) := (by first | exact (c_w1 _ _ (by omega)).trans (by go_simp) | go_simp)
  have l0_0_w1 : w1.frozen? ⟨w.heap.size, 0, none⟩ = false := (by first | exact (f_w1 _ _ (by omega)).trans (by go_simp) | go_simp)
  have k0_1_w1 : w1.cell? ⟨w.heap.size, 1, none⟩ = some (.int .i64 (0)) := (by first | exact (c_w1 _ _ (by omega)).trans (by go_simp) | go_simp)
  have l0_1_w1 : w1.frozen? ⟨w.heap.size, 1, none⟩ = false := (by first | exact (f_w1 _ _ (by omega)).trans (by go_simp) | go_simp)
  clear c_w1 f_w1
  go_wp2_with fail
  refine (LI.out _).mono ?_
  rintro _ w2 ⟨g, cap, rfl, hg1, hg2, hg3, hg4, hg5, b_w2⟩
  obtain ⟨c_w2, f_w2, z_w2⟩ := bfacts b_w2 (by first | (simp; rfl) | rfl); have y0_w2 : w.heap.size < w2.heap.size := (by omega); have k0_0_w2 : w2.cell? ⟨w.heap.size, 0, none⟩ = some (.int .i64 (0)) := (by first | exact (c_w2 _ _ (by omega)).trans (by go_simp) | go_simp); have l0_0_w2 : w2.frozen? ⟨w.heap.size, 0, none⟩ = false := (by first | exact (f_w2 _ _ (by omega)).trans (by go_simp) | go_simp); have k0_1_w2 : w2.cell? ⟨w.heap.size, 1, none⟩ = some (.int .i64 (0)) := (by first | exact (c_w2 _ _ (by omega)).trans (by go_simp) | go_simp); have l0_1_w2 : w2.frozen? ⟨w.heap.size, 1, none⟩ = false := (by first | exact (f_w2 _ _ (by omega)).trans (by go_simp) | go_simp); clear c_w2 f_w2
  have H5 := Lib.hid hg5; have HG := Lib.hid hg1; clear hg5 hg1
  have B2 : Below w.heap.size w w2 := by (repeat' (first | with_reducible exact Below.refl _ _ | with_reducible refine Below.setCell ?_ ?_ _ | with_reducible refine Below.drew ?_ | with_reducible refine below_drewN ?_ _ | with_reducible refine Below.alloc ?_ ?_ _ | with_reducible refine below_step b_w2 ?_ ?_ | with_reducible refine below_step b_w1 ?_ ?_ | omega | (simp; done) | (simp; omega)))
  have HB2 := Lib.hid B2; clear B2 b_w2
  go_wp2_with fail
  go_loopw [8, 9, 25] (fun d u k wr => ∃ i : Nat, i ≤ 721 ∧ k = .int .i64 i ∧ d = .int .i64 (rsD f i) ∧ u = .int .i64 (rsU f i) ∧ wr = w2) (fun _ _ k _ => (721 - intOf k).toNat)
  case atStart => exact ⟨0, by omega, rfl, rfl, rfl, rfl⟩
  case round =>
    obtain ⟨i, hle, rfl, rfl, rfl, rfl⟩ := hrel
    have bD := rsD_bd f i
    have bU := rsU_bd f i
    by_cases ht : (i : Int) < 721
    · have hx := H5.out i (by omega)
      rcases FC.out i with hf | hf | hf
      · by_cases u : rsU f i < 0
        · go_wp2
          go_roundw
          case rel => exact ⟨i + 1, by omega, by simp, by rw [(rs_up hf (by omega)).1], by rw [(rs_up hf (by omega)).2], by first | rfl | trivial⟩
          case measure => simp [intOf]; omega
        · go_wp2
          go_roundw
          case rel => exact ⟨i + 1, by omega, by simp, by rw [(rs_keep (f := f) (k := i) (by omega) (Or.inr (by omega))).1], by rw [(rs_keep (f := f) (k := i) (by omega) (Or.inr (by omega))).2], by first | rfl | trivial⟩
          case measure => simp [intOf]; omega
      · go_wp2
        go_roundw
        case rel => exact ⟨i + 1, by omega, by simp, by rw [(rs_keep (f := f) (k := i) (by omega) (Or.inl (by omega))).1], by rw [(rs_keep (f := f) (k := i) (by omega) (Or.inl (by omega))).2], by first | rfl | trivial⟩
        case measure => simp [intOf]; omega
      · go_wp2
        go_roundw
        case rel => exact ⟨i + 1, by omega, by simp, by rw [(rs_down hf).1], by rw [(rs_down hf).2], by first | rfl | trivial⟩
        case measure => simp [intOf]; omega
    · have hi' : i = N := by have := HN.out; omega
      have HI := Lib.hid hi'; clear hi'
      rcases riD_cases f i with ⟨t, e⟩ | ⟨t1, t2, e⟩ | ⟨t1, t2, e⟩
      all_goals
        have E := Lib.hid e
        clear e
        go_wp2
        exact bodyPost_ret (v := .tuple #[(.agg #[.int .i64 ((riD f N).lo), .int .i64 ((riD f N).hi)]), .int .i64 (riD f N).code]) (by rw [← HI.out, E.out]; simp [results, Try.results38, go_sem, *]) rfl ⟨rfl, HB2.out.trans (by (repeat' (first | with_reducible exact Below.refl _ _ | with_reducible assumption | with_reducible refine Below.setCell ?_ ?_ _ | with_reducible refine Below.drew ?_ | with_reducible refine below_drewN ?_ _ | with_reducible refine Below.alloc ?_ ?_ _ | with_reducible refine below_step (by assumption) ?_ ?_ | omega | exact Below.size (by assumption) | (simp; done) | (simp; omega))))⟩

set_option maxHeartbeats 1000000 in
theorem SetBounds_no (lat n h : Int) (w : World) (p : raB lat n h = false) :
    Calls Try.prog 34 #[.int .i64 lat, .int .i64 n, .int .i64 h] w fun e w' => e = .returned (.tuple #[(.agg #[.int .i64 (0), .int .i64 (0)]), .int .i64 2]) ∧ Below w.heap.size w w' := by
  go_enter Try.func34, Try.ntmps34
  go_wp2_with fail
  refine (seen1_any lat n h _ _ _ (by simp) (by go_simp)).mono ?_
  rintro _ w1 ⟨rfl, b_w1⟩
  obtain ⟨c_w1, f_w1, z_w1⟩ := bfacts b_w1 (by first | (simp; rfl) | rfl)
  have y0_w1 : w.heap.size < w1.heap.size := (by omega)
  have k0_0_w1 : w1.cell? ⟨w.heap.size, 0, none⟩ = some (.int .i64 (0)) := (by first | exact (c_w1 _ _ (by omega)).trans (by go_simp) | go_simp)
  have l0_0_w1 : w1.frozen? ⟨w.heap.size, 0, none⟩ = false := (by first | exact (f_w1 _ _ (by omega)).trans (by go_simp) | go_simp)
  have k0_1_w1 : w1.cell? ⟨w.heap.size, 1, none⟩ = some (.int .i64 (0)) := (by first | exact (c_w1 _ _ (by omega)).trans (by go_simp) | go_simp)
  have l0_1_w1 : w1.frozen? ⟨w.heap.size, 1, none⟩ = false := (by first | exact (f_w1 _ _ (by omega)).trans (by go_simp) | go_simp)
  clear c_w1 f_w1
  go_wp2
  exact bodyPost_ret (v := .tuple #[(.agg #[.int .i64 (0), .int .i64 (0)]), .int .i64 2]) (by simp [results, Try.results34, go_sem, *]) rfl ⟨rfl, by (repeat' (first | with_reducible exact Below.refl _ _ | with_reducible refine Below.setCell ?_ ?_ _ | with_reducible refine Below.drew ?_ | with_reducible refine below_drewN ?_ _ | with_reducible refine Below.alloc ?_ ?_ _ | with_reducible refine below_step b_w1 ?_ ?_ | omega | (simp; done) | (simp; omega)))⟩
set_option maxRecDepth 100000 in
set_option maxHeartbeats 4000000 in
theorem SetBounds_yes (lat n h : Int) (w : World) (p : raB lat n h = true) :
    Calls Try.prog 34 #[.int .i64 lat, .int .i64 n, .int .i64 h] w fun e w' => e = .returned (.tuple #[(.agg #[.int .i64 ((seM (dyM lat n h) 0 720).lo), .int .i64 ((seM (dyM lat n h) 0 720).hi)]), .int .i64 (seM (dyM lat n h) 0 720).code]) ∧ Below w.heap.size w w' := by
  obtain ⟨l0, l1, n0, n1, h0, h1⟩ := raB_t p
  have li := fun w => lights_any lat n h w l0 l1 n0 n1 h0 h1
  have fc := dyM_cases lat n h
  generalize dyM lat n h = f at li fc ⊢
  have LI := Lib.hid li; have FC := Lib.hid fc; clear li fc
  obtain ⟨N, hN⟩ : ∃ N : Nat, N = 720 := ⟨_, rfl⟩
  rw [← hN]
  have HN := Lib.hid hN; clear hN
  go_enter Try.func34, Try.ntmps34
  go_wp2_with fail
  refine (seen1_any lat n h _ _ _ (by simp) (by go_simp)).mono ?_
  rintro _ w1 ⟨rfl, b_w1⟩
  obtain ⟨c_w1, f_w1, z_w1⟩ := bfacts b_w1 (by first | (simp; rfl) | rfl)
  have y0_w1 : w.heap.size < w1.heap.size := (by omega)
  have k0_0_w1 : w1.cell? ⟨w.heap.size, 0, none⟩ = some (.int .i64 (0)) := (by first | exact (c_w1 _ _ (by omega)).trans (by go_simp) | go_simp)
  have l0_0_w1 : w1.frozen? ⟨w.heap.size, 0, none⟩ = false := (by first | exact (f_w1 _ _ (by omega)).trans (by go_simp) | go_simp)
  have k0_1_w1 : w1.cell? ⟨w.heap.size, 1, none⟩ = some (.int .i64 (0)) := (by first | exact (c_w1 _ _ (by omega)).trans (by go_simp) | go_simp)
  have l0_1_w1 : w1.frozen? ⟨w.heap.size, 1, none⟩ = false := (by first | exact (f_w1 _ _ (by omega)).trans (by go_simp) | go_simp)
  clear c_w1 f_w1
  go_wp2_with fail
  refine (LI.out _).mono ?_
  rintro _ w2 ⟨g, cap, rfl, hg1, hg2, hg3, hg4, hg5, b_w2⟩
  obtain ⟨c_w2, f_w2, z_w2⟩ := bfacts b_w2 (by first | (simp; rfl) | rfl); have y0_w2 : w.heap.size < w2.heap.size := (by omega); have k0_0_w2 : w2.cell? ⟨w.heap.size, 0, none⟩ = some (.int .i64 (0)) := (by first | exact (c_w2 _ _ (by omega)).trans (by go_simp) | go_simp); have l0_0_w2 : w2.frozen? ⟨w.heap.size, 0, none⟩ = false := (by first | exact (f_w2 _ _ (by omega)).trans (by go_simp) | go_simp); have k0_1_w2 : w2.cell? ⟨w.heap.size, 1, none⟩ = some (.int .i64 (0)) := (by first | exact (c_w2 _ _ (by omega)).trans (by go_simp) | go_simp); have l0_1_w2 : w2.frozen? ⟨w.heap.size, 1, none⟩ = false := (by first | exact (f_w2 _ _ (by omega)).trans (by go_simp) | go_simp); clear c_w2 f_w2
  have H5 := Lib.hid hg5; have HG := Lib.hid hg1; clear hg5 hg1
  have B2 : Below w.heap.size w w2 := by (repeat' (first | with_reducible exact Below.refl _ _ | with_reducible refine Below.setCell ?_ ?_ _ | with_reducible refine Below.drew ?_ | with_reducible refine below_drewN ?_ _ | with_reducible refine Below.alloc ?_ ?_ _ | with_reducible refine below_step b_w2 ?_ ?_ | with_reducible refine below_step b_w1 ?_ ?_ | omega | (simp; done) | (simp; omega)))
  have HB2 := Lib.hid B2; clear B2 b_w2
  go_wp2_with fail
  go_loopw [8, 24] (fun u k wr => ∃ i d : Nat, i + d = N ∧ k = .int .i64 i ∧ u = .int .i64 (stU f i) ∧ seM f 0 N = seM f i d ∧ wr = w2) (fun _ k _ => (720 - intOf k).toNat)
  case atStart => exact ⟨0, N, by omega, rfl, rfl, rfl, rfl⟩
  case round =>
    obtain ⟨i, d, hle, rfl, rfl, hse, rfl⟩ := hrel
    have bU := stU_bd f i
    have hle' : (i : Int) + d = 720 := by have := HN.out; omega
    have HS := Lib.hid hse; have HL := Lib.hid hle; clear hse hle
    cases d with
    | succ d =>
      have ht : (i : Int) < 720 := by omega
      have hx := H5.out (720 + i) (by omega)
      rcases FC.out (720 + i) with hf | hf | hf
      · go_wp2
        go_roundw
        case rel => exact ⟨i + 1, d, by have := HL.out; omega, by simp, by simp [stU, hf], by rw [HS.out]; simp [seM, hf], by first | rfl | trivial⟩
        case measure => simp [intOf]; omega
      · go_wp2
        go_roundw
        case rel => exact ⟨i + 1, d, by have := HL.out; omega, by simp, by simp [stU, hf], by rw [HS.out]; simp [seM, hf], by first | rfl | trivial⟩
        case measure => simp [intOf]; omega
      · by_cases u : stU f i < 0
        · have E : seM f 0 N = ⟨0, 0, 4⟩ := by rw [HS.out]; simp [seM, hf, u]
          have HE := Lib.hid E; clear E
          go_wp2
          exact bodyPost_ret (v := .tuple #[(.agg #[.int .i64 ((seM f 0 N).lo), .int .i64 ((seM f 0 N).hi)]), .int .i64 (seM f 0 N).code]) (by rw [HE.out]; simp [results, Try.results34, go_sem, *]) rfl ⟨rfl, HB2.out.trans (by (repeat' (first | with_reducible exact Below.refl _ _ | with_reducible assumption | with_reducible refine Below.setCell ?_ ?_ _ | with_reducible refine Below.drew ?_ | with_reducible refine below_drewN ?_ _ | with_reducible refine Below.alloc ?_ ?_ _ | with_reducible refine below_step (by assumption) ?_ ?_ | omega | exact Below.size (by assumption) | (simp; done) | (simp; omega))))⟩
        · have E : seM f 0 N = ⟨stU f i, 720 + i, 0⟩ := by rw [HS.out]; simp [seM, hf, u]
          have HE := Lib.hid E; clear E
          go_wp2
          exact bodyPost_ret (v := .tuple #[(.agg #[.int .i64 ((seM f 0 N).lo), .int .i64 ((seM f 0 N).hi)]), .int .i64 (seM f 0 N).code]) (by rw [HE.out]; simp [results, Try.results34, go_sem, *]) rfl ⟨rfl, HB2.out.trans (by (repeat' (first | with_reducible exact Below.refl _ _ | with_reducible assumption | with_reducible refine Below.setCell ?_ ?_ _ | with_reducible refine Below.drew ?_ | with_reducible refine below_drewN ?_ _ | with_reducible refine Below.alloc ?_ ?_ _ | with_reducible refine below_step (by assumption) ?_ ?_ | omega | exact Below.size (by assumption) | (simp; done) | (simp; omega))))⟩
    | zero =>
      have ht : ¬ (i : Int) < 720 := by omega
      have E : seM f 0 N = ⟨0, 0, 4⟩ := by rw [HS.out]; rfl
      have HE := Lib.hid E; clear E
      go_wp2
      exact bodyPost_ret (v := .tuple #[(.agg #[.int .i64 ((seM f 0 N).lo), .int .i64 ((seM f 0 N).hi)]), .int .i64 (seM f 0 N).code]) (by rw [HE.out]; simp [results, Try.results34, go_sem, *]) rfl ⟨rfl, HB2.out.trans (by (repeat' (first | with_reducible exact Below.refl _ _ | with_reducible assumption | with_reducible refine Below.setCell ?_ ?_ _ | with_reducible refine Below.drew ?_ | with_reducible refine below_drewN ?_ _ | with_reducible refine Below.alloc ?_ ?_ _ | with_reducible refine below_step (by assumption) ?_ ?_ | omega | exact Below.size (by assumption) | (simp; done) | (simp; omega))))⟩


end Go.Proofs.Ytikmepppnechaaa
