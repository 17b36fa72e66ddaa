/- What the reference's functions on rise, set and the minutes of a day return. -/
import Derived.Test.YtikmepppnechaaaS5
import Derived.Test.YtikmepppnechaaaApp
namespace Go.Proofs.Ytikmepppnechaaa
set_option linter.unusedVariables false
set_option linter.unusedSimpArgs false
open Go.RowKit


set_option maxHeartbeats 1000000 in
theorem sUpMinutes_no (lat n h : Int) (w : World) (p : raB lat n h = false) :
    Calls Try.prog 35 #[.int .i64 lat, .int .i64 n, .int .i64 h] w fun e w' => e = .returned (.tuple #[(.agg #[.int .i64 (0), .int .i64 (0)]), .int .i64 2]) ∧ Below w.heap.size w w' := by
  go_enter Try.func35, Try.ntmps35
  go_wp2_with (go_at_call 58; refine (sRa_any _ _ _ _).mono ?_; rintro e w' ⟨rfl, rfl⟩)
  exact bodyPost_ret (v := .tuple #[(.agg #[.int .i64 (0), .int .i64 (0)]), .int .i64 2]) (by simp [results, Try.results35, go_sem, *]) rfl ⟨rfl, by (repeat' (first | with_reducible exact Below.refl _ _ | with_reducible assumption | with_reducible refine Below.setCell ?_ ?_ _ | with_reducible refine Below.drew ?_ | with_reducible refine below_drewN ?_ _ | with_reducible refine Below.alloc ?_ ?_ _ | with_reducible refine below_step (by assumption) ?_ ?_ | omega | exact Below.size (by assumption) | (simp; done) | (simp; omega)))⟩
set_option maxHeartbeats 1000000 in
theorem sUpMinutes_yes (lat n h : Int) (w : World) (p : raB lat n h = true) :
    Calls Try.prog 35 #[.int .i64 lat, .int .i64 n, .int .i64 h] w fun e w' => e = .returned (.tuple #[(.agg #[.int .i64 (upN (dyM lat n h) 1440), .int .i64 (1440 - dnN (dyM lat n h) 1440)]), .int .i64 0]) ∧ Below w.heap.size w w' := by
  obtain ⟨l0, l1, n0, n1, h0, h1⟩ := raB_t p
  have dd := deI_bd n
  have co : ∀ w, Calls Try.prog 72 #[(.agg #[.int .i64 (lat), .int .i64 ((deI n).lo), .int .i64 ((deI n).hi), .int .i64 (sL h), .int .i64 (sH h)])] w fun e w' => e = .returned (.tuple #[.int .i64 (upN (dyM lat n h) 1440), .int .i64 (dnN (dyM lat n h) 1440)]) ∧ Below w.heap.size w w' :=
    fun w => sCountD_any lat (deI n).lo (deI n).hi (sL h) (sH h) w l0 l1 (by omega) (by omega) (by omega) (by omega)
  have hd := dnN_bd (dyM lat n h) 1440
  generalize upN (dyM lat n h) 1440 = u at co ⊢
  generalize dnN (dyM lat n h) 1440 = d at co hd ⊢
  have CO := Lib.hid co; clear co
  go_enter Try.func35, Try.ntmps35
  go_wp2_with (go_at_call 58; refine (sRa_any _ _ _ _).mono ?_; rintro e w' ⟨rfl, rfl⟩)
  refine (sMake_any lat n h _ n0 n1 h0 h1).mono ?_
  rintro _ w1 ⟨rfl, b_w1⟩
  obtain ⟨c_w1, f_w1, z_w1⟩ := bfacts b_w1 (by first | (simp; rfl) | rfl)
  have y0_w1 : w.heap.size < w1.heap.size := (by omega)
  have k0_0_w1 : w1.cell? ⟨w.heap.size, 0, none⟩ = some (.int .i64 (0)) := (by first | exact (c_w1 _ _ (by omega)).trans (by go_simp) | go_simp)
  have l0_0_w1 : w1.frozen? ⟨w.heap.size, 0, none⟩ = false := (by first | exact (f_w1 _ _ (by omega)).trans (by go_simp) | go_simp)
  have k0_1_w1 : w1.cell? ⟨w.heap.size, 1, none⟩ = some (.int .i64 (0)) := (by first | exact (c_w1 _ _ (by omega)).trans (by go_simp) | go_simp)
  have l0_1_w1 : w1.frozen? ⟨w.heap.size, 1, none⟩ = false := (by first | exact (f_w1 _ _ (by omega)).trans (by go_simp) | go_simp)
  clear c_w1 f_w1
  go_wp2_with fail
  refine (CO.out _).mono ?_
  rintro _ w2 ⟨rfl, b_w2⟩
  obtain ⟨c_w2, f_w2, z_w2⟩ := bfacts b_w2 (by first | (simp; rfl) | rfl)
  have y0_w2 : w.heap.size < w2.heap.size := (by omega)
  have k0_0_w2 : w2.cell? ⟨w.heap.size, 0, none⟩ = some (.int .i64 (0)) := (by first | exact (c_w2 _ _ (by omega)).trans (by go_simp) | go_simp)
  have l0_0_w2 : w2.frozen? ⟨w.heap.size, 0, none⟩ = false := (by first | exact (f_w2 _ _ (by omega)).trans (by go_simp) | go_simp)
  have k0_1_w2 : w2.cell? ⟨w.heap.size, 1, none⟩ = some (.int .i64 (0)) := (by first | exact (c_w2 _ _ (by omega)).trans (by go_simp) | go_simp)
  have l0_1_w2 : w2.frozen? ⟨w.heap.size, 1, none⟩ = false := (by first | exact (f_w2 _ _ (by omega)).trans (by go_simp) | go_simp)
  clear c_w2 f_w2
  go_wp2
  exact bodyPost_ret (v := .tuple #[(.agg #[.int .i64 (u), .int .i64 (1440 - d)]), .int .i64 0]) (by simp [results, Try.results35, go_sem, *]) rfl ⟨rfl, by (repeat' (first | with_reducible exact Below.refl _ _ | with_reducible refine Below.setCell ?_ ?_ _ | with_reducible refine Below.drew ?_ | with_reducible refine below_drewN ?_ _ | with_reducible refine Below.alloc ?_ ?_ _ | with_reducible refine below_step b_w2 ?_ ?_ | with_reducible refine below_step b_w1 ?_ ?_ | omega | (simp; done) | (simp; omega)))⟩

set_option maxHeartbeats 1000000 in
theorem sDayKind_no (lat n h : Int) (w : World) (p : raB lat n h = false) :
    Calls Try.prog 41 #[.int .i64 lat, .int .i64 n, .int .i64 h] w fun e w' => e = .returned (.tuple #[.int .i64 0, .int .i64 2]) ∧ Below w.heap.size w w' := by
  go_enter Try.func41, Try.ntmps41
  go_wp2_with (go_at_call 58; refine (sRa_any _ _ _ _).mono ?_; rintro e w' ⟨rfl, rfl⟩)
  exact bodyPost_ret (v := .tuple #[.int .i64 0, .int .i64 2]) (by simp [results, Try.results41, go_sem, *]) rfl ⟨rfl, by (repeat' (first | with_reducible exact Below.refl _ _ | with_reducible assumption | with_reducible refine Below.setCell ?_ ?_ _ | with_reducible refine Below.drew ?_ | with_reducible refine below_drewN ?_ _ | with_reducible refine Below.alloc ?_ ?_ _ | with_reducible refine below_step (by assumption) ?_ ?_ | omega | exact Below.size (by assumption) | (simp; done) | (simp; omega)))⟩
set_option maxHeartbeats 1000000 in
theorem sDayKind_yes (lat n h : Int) (w : World) (p : raB lat n h = true) :
    Calls Try.prog 41 #[.int .i64 lat, .int .i64 n, .int .i64 h] w fun e w' => e = .returned (.tuple #[.int .i64 (kiM (upN (dyM lat n h) 1440) (dnN (dyM lat n h) 1440)), .int .i64 0]) ∧ Below w.heap.size w w' := by
  obtain ⟨l0, l1, n0, n1, h0, h1⟩ := raB_t p
  have dd := deI_bd n
  have co : ∀ w, Calls Try.prog 72 #[(.agg #[.int .i64 (lat), .int .i64 ((deI n).lo), .int .i64 ((deI n).hi), .int .i64 (sL h), .int .i64 (sH h)])] w fun e w' => e = .returned (.tuple #[.int .i64 (upN (dyM lat n h) 1440), .int .i64 (dnN (dyM lat n h) 1440)]) ∧ Below w.heap.size w w' :=
    fun w => sCountD_any lat (deI n).lo (deI n).hi (sL h) (sH h) w l0 l1 (by omega) (by omega) (by omega) (by omega)
  generalize upN (dyM lat n h) 1440 = u at co ⊢
  generalize dnN (dyM lat n h) 1440 = d at co ⊢
  have CO := Lib.hid co; clear co
  rcases kiM_cases u d with ⟨t, e⟩ | ⟨t1, t2, e⟩ | ⟨t1, t2, e⟩
  · have E := Lib.hid e; clear e
    go_enter Try.func41, Try.ntmps41
    go_wp2_with (go_at_call 58; refine (sRa_any _ _ _ _).mono ?_; rintro e w' ⟨rfl, rfl⟩)
    refine (sMake_any lat n h _ n0 n1 h0 h1).mono ?_
    rintro _ w1 ⟨rfl, b_w1⟩
    obtain ⟨c_w1, f_w1, z_w1⟩ := bfacts b_w1 (by first | (simp; rfl) | rfl)
    go_wp2_with fail
    refine (CO.out _).mono ?_
    rintro _ w2 ⟨rfl, b_w2⟩
    obtain ⟨c_w2, f_w2, z_w2⟩ := bfacts b_w2 (by first | (simp; rfl) | rfl)
    go_wp2
    exact bodyPost_ret (v := .tuple #[.int .i64 (kiM u d), .int .i64 0]) (by rw [E.out]; simp [results, Try.results41, go_sem]) rfl ⟨rfl, by (repeat' (first | with_reducible exact Below.refl _ _ | with_reducible refine Below.setCell ?_ ?_ _ | with_reducible refine Below.drew ?_ | with_reducible refine below_drewN ?_ _ | with_reducible refine Below.alloc ?_ ?_ _ | with_reducible refine below_step b_w2 ?_ ?_ | with_reducible refine below_step b_w1 ?_ ?_ | omega | (simp; done) | (simp; omega)))⟩
  · have E := Lib.hid e; clear e
    have t1' : ¬ (1440 : Int) = u := fun k => t1 k.symm
    go_enter Try.func41, Try.ntmps41
    go_wp2_with (go_at_call 58; refine (sRa_any _ _ _ _).mono ?_; rintro e w' ⟨rfl, rfl⟩)
    refine (sMake_any lat n h _ n0 n1 h0 h1).mono ?_
    rintro _ w1 ⟨rfl, b_w1⟩
    obtain ⟨c_w1, f_w1, z_w1⟩ := bfacts b_w1 (by first | (simp; rfl) | rfl)
    go_wp2_with fail
    refine (CO.out _).mono ?_
    rintro _ w2 ⟨rfl, b_w2⟩
    obtain ⟨c_w2, f_w2, z_w2⟩ := bfacts b_w2 (by first | (simp; rfl) | rfl)
    go_wp2
    exact bodyPost_ret (v := .tuple #[.int .i64 (kiM u d), .int .i64 0]) (by rw [E.out]; simp [results, Try.results41, go_sem]) rfl ⟨rfl, by (repeat' (first | with_reducible exact Below.refl _ _ | with_reducible refine Below.setCell ?_ ?_ _ | with_reducible refine Below.drew ?_ | with_reducible refine below_drewN ?_ _ | with_reducible refine Below.alloc ?_ ?_ _ | with_reducible refine below_step b_w2 ?_ ?_ | with_reducible refine below_step b_w1 ?_ ?_ | omega | (simp; done) | (simp; omega)))⟩
  · have E := Lib.hid e; clear e
    have t1' : ¬ (1440 : Int) = u := fun k => t1 k.symm
    have t2' : ¬ (1440 : Int) = d := fun k => t2 k.symm
    go_enter Try.func41, Try.ntmps41
    go_wp2_with (go_at_call 58; refine (sRa_any _ _ _ _).mono ?_; rintro e w' ⟨rfl, rfl⟩)
    refine (sMake_any lat n h _ n0 n1 h0 h1).mono ?_
    rintro _ w1 ⟨rfl, b_w1⟩
    obtain ⟨c_w1, f_w1, z_w1⟩ := bfacts b_w1 (by first | (simp; rfl) | rfl)
    go_wp2_with fail
    refine (CO.out _).mono ?_
    rintro _ w2 ⟨rfl, b_w2⟩
    obtain ⟨c_w2, f_w2, z_w2⟩ := bfacts b_w2 (by first | (simp; rfl) | rfl)
    go_wp2
    exact bodyPost_ret (v := .tuple #[.int .i64 (kiM u d), .int .i64 0]) (by rw [E.out]; simp [results, Try.results41, go_sem]) rfl ⟨rfl, by (repeat' (first | with_reducible exact Below.refl _ _ | with_reducible refine Below.setCell ?_ ?_ _ | with_reducible refine Below.drew ?_ | with_reducible refine below_drewN ?_ _ | with_reducible refine Below.alloc ?_ ?_ _ | with_reducible refine below_step b_w2 ?_ ?_ | with_reducible refine below_step b_w1 ?_ ?_ | omega | (simp; done) | (simp; omega)))⟩

set_option maxHeartbeats 1000000 in
theorem sRiseBounds_no (lat n h : Int) (w : World) (p : raB lat n h = false) :
    Calls Try.prog 37 #[.int .i64 lat, .int .i64 n, .int .i64 h] w fun e w' => e = .returned (.tuple #[(.agg #[.int .i64 (0), .int .i64 (0)]), .int .i64 2]) ∧ Below w.heap.size w w' := by
  go_enter Try.func37, Try.ntmps37
  go_wp2_with (go_at_call 58; refine (sRa_any _ _ _ _).mono ?_; rintro e w' ⟨rfl, rfl⟩)
  exact bodyPost_ret (v := .tuple #[(.agg #[.int .i64 (0), .int .i64 (0)]), .int .i64 2]) (by simp [results, Try.results37, go_sem, *]) rfl ⟨rfl, by (repeat' (first | with_reducible exact Below.refl _ _ | with_reducible assumption | with_reducible refine Below.setCell ?_ ?_ _ | with_reducible refine Below.drew ?_ | with_reducible refine below_drewN ?_ _ | with_reducible refine Below.alloc ?_ ?_ _ | with_reducible refine below_step (by assumption) ?_ ?_ | omega | exact Below.size (by assumption) | (simp; done) | (simp; omega)))⟩
set_option maxRecDepth 100000 in
set_option maxHeartbeats 4000000 in
theorem sRiseBounds_yes (lat n h : Int) (w : World) (p : raB lat n h = true) :
    Calls Try.prog 37 #[.int .i64 lat, .int .i64 n, .int .i64 h] w fun e w' => e = .returned (.tuple #[(.agg #[.int .i64 ((riD (dyM lat n h) 721).lo), .int .i64 ((riD (dyM lat n h) 721).hi)]), .int .i64 (riD (dyM lat n h) 721).code]) ∧ Below w.heap.size w w' := by
  obtain ⟨l0, l1, n0, n1, h0, h1⟩ := raB_t p
  have dd := deI_bd n
  have li : ∀ (i : Nat) (w : World), i < 1440 → Calls Try.prog 60 #[(.agg #[.int .i64 (lat), .int .i64 ((deI n).lo), .int .i64 ((deI n).hi), .int .i64 (sL h), .int .i64 (sH h)]), .int .i64 i] w fun e w' => e = .returned (.int .i64 (dyM lat n h i)) ∧ Below w.heap.size w w' :=
    fun i w hh => sLight_any lat (deI n).lo (deI n).hi (sL h) (sH h) i w l0 l1 (by omega) (by omega) (by omega) (by omega) (by omega) (by omega)
  have fc := dyM_cases lat n h
  generalize dyM lat n h = f at li fc ⊢
  have LI := Lib.hid li; have FC := Lib.hid fc; clear li fc
  obtain ⟨N, hN⟩ : ∃ N : Nat, N = 721 := ⟨_, rfl⟩
  rw [← hN]
  have HN := Lib.hid hN; clear hN
  go_enter Try.func37, Try.ntmps37
  go_wp2_with (go_at_call 58; refine (sRa_any _ _ _ _).mono ?_; rintro e w' ⟨rfl, rfl⟩)
  refine (sMake_any lat n h _ n0 n1 h0 h1).mono ?_
  rintro _ w1 ⟨rfl, b_w1⟩
  obtain ⟨c_w1, f_w1, z_w1⟩ := bfacts b_w1 (by first | (simp; rfl) | rfl)
  have y0_w1 : w.heap.size < w1.heap.size := (by omega)
  have k0_0_w1 : w1.cell? ⟨w.heap.size, 0, none⟩ = some (.int .i64 (0)) := (by first | exact (c_w1 _ _ (by omega)).trans (by go_simp) | go_simp)
  have l0_0_w1 : w1.frozen? ⟨w.heap.size, 0, none⟩ = false := (by first | exact (f_w1 _ _ (by omega)).trans (by go_simp) | go_simp)
  have k0_1_w1 : w1.cell? ⟨w.heap.size, 1, none⟩ = some (.int .i64 (0)) := (by first | exact (c_w1 _ _ (by omega)).trans (by go_simp) | go_simp)
  have l0_1_w1 : w1.frozen? ⟨w.heap.size, 1, none⟩ = false := (by first | exact (f_w1 _ _ (by omega)).trans (by go_simp) | go_simp)
  clear c_w1 f_w1
  have hr0 := Lib.hid (heap_below (heap_alloc_new w (.cells #[.int .i64 0, .int .i64 0] 23)) b_w1)
  have B1 : Below w.heap.size w w1 := by (repeat' (first | with_reducible exact Below.refl _ _ | with_reducible refine Below.setCell ?_ ?_ _ | with_reducible refine Below.drew ?_ | with_reducible refine below_drewN ?_ _ | with_reducible refine Below.alloc ?_ ?_ _ | with_reducible refine below_step b_w1 ?_ ?_ | omega | (simp; done) | (simp; omega)))
  have HB1 := Lib.hid B1; clear B1 b_w1
  go_wp2_with fail
  go_loopw [9, 10, 11] (fun d u k wr => ∃ i : Nat, i ≤ 721 ∧ k = .int .i64 i ∧ d = .int .i64 (rsD f i) ∧ u = .int .i64 (rsU f i) ∧ wr.heap[w1.heap.size]? = some (.cells #[.int .i64 lat, .int .i64 (deI n).lo, .int .i64 (deI n).hi, .int .i64 (sL h), .int .i64 (sH h)] 60) ∧ wr.heap[w.heap.size]? = some (.cells #[.int .i64 0, .int .i64 0] 23) ∧ Below w.heap.size w wr) (fun _ _ k _ => (721 - intOf k).toNat)
  case atStart => exact ⟨0, by omega, rfl, rfl, rfl, heap_alloc_new _ _, heap_alloc hr0.out, HB1.out.trans (Below.alloc (Below.refl _ _) (by omega) _)⟩
  case round =>
    obtain ⟨i, hle, rfl, rfl, rfl, hd, hr, b_wr⟩ := hrel
    have bD := rsD_bd f i
    have bU := rsU_bd f i
    have z_hd : w1.heap.size < wr.heap.size := heap_lt hd; have k0_hd : wr.cell? ⟨w1.heap.size, 0, none⟩ = some (.int .i64 (lat)) := ((blk_facts hd).1 0).trans (by simp); have l0_hd : wr.frozen? ⟨w1.heap.size, 0, none⟩ = false := (blk_facts hd).2.1 0; have k1_hd : wr.cell? ⟨w1.heap.size, 1, none⟩ = some (.int .i64 ((deI n).lo)) := ((blk_facts hd).1 1).trans (by simp); have l1_hd : wr.frozen? ⟨w1.heap.size, 1, none⟩ = false := (blk_facts hd).2.1 1; have k2_hd : wr.cell? ⟨w1.heap.size, 2, none⟩ = some (.int .i64 ((deI n).hi)) := ((blk_facts hd).1 2).trans (by simp); have l2_hd : wr.frozen? ⟨w1.heap.size, 2, none⟩ = false := (blk_facts hd).2.1 2; have k3_hd : wr.cell? ⟨w1.heap.size, 3, none⟩ = some (.int .i64 (sL h)) := ((blk_facts hd).1 3).trans (by simp); have l3_hd : wr.frozen? ⟨w1.heap.size, 3, none⟩ = false := (blk_facts hd).2.1 3; have k4_hd : wr.cell? ⟨w1.heap.size, 4, none⟩ = some (.int .i64 (sH h)) := ((blk_facts hd).1 4).trans (by simp); have l4_hd : wr.frozen? ⟨w1.heap.size, 4, none⟩ = false := (blk_facts hd).2.1 4
    have z_hr : w.heap.size < wr.heap.size := heap_lt hr; have k0_hr : wr.cell? ⟨w.heap.size, 0, none⟩ = some (.int .i64 (0)) := ((blk_facts hr).1 0).trans (by simp); have l0_hr : wr.frozen? ⟨w.heap.size, 0, none⟩ = false := (blk_facts hr).2.1 0; have k1_hr : wr.cell? ⟨w.heap.size, 1, none⟩ = some (.int .i64 (0)) := ((blk_facts hr).1 1).trans (by simp); have l1_hr : wr.frozen? ⟨w.heap.size, 1, none⟩ = false := (blk_facts hr).2.1 1
    have HD := Lib.hid hd; have HR := Lib.hid hr; have HB := Lib.hid b_wr; clear hd hr b_wr
    by_cases ht : (i : Int) ≤ 720
    · go_wp2_with fail
      refine (LI.out i _ (by omega)).mono ?_
      rintro _ w2 ⟨rfl, b_w2⟩
      obtain ⟨c_w2, f_w2, z_w2⟩ := bfacts b_w2 (by first | (simp; rfl) | rfl)
      have hd2 := Lib.hid (heap_below HD.out b_w2)
      have hr2 := Lib.hid (heap_below HR.out b_w2)
      have hb2 := Lib.hid (HB.out.trans (b_w2.mono (by omega)))
      clear HD HR HB b_w2
      rcases FC.out i with hf | hf | hf
      · by_cases u : rsU f i < 0
        · go_wp2
          go_roundw
          case rel => exact ⟨i + 1, by omega, by simp, by rw [(rs_up hf (by omega)).1], by rw [(rs_up hf (by omega)).2], hd2.out, hr2.out, hb2.out⟩
          case measure => simp [intOf]; omega
        · go_wp2
          go_roundw
          case rel => exact ⟨i + 1, by omega, by simp, by rw [(rs_keep (f := f) (k := i) (by omega) (Or.inr (by omega))).1], by rw [(rs_keep (f := f) (k := i) (by omega) (Or.inr (by omega))).2], hd2.out, hr2.out, hb2.out⟩
          case measure => simp [intOf]; omega
      · go_wp2
        go_roundw
        case rel => exact ⟨i + 1, by omega, by simp, by rw [(rs_keep (f := f) (k := i) (by omega) (Or.inl (by omega))).1], by rw [(rs_keep (f := f) (k := i) (by omega) (Or.inl (by omega))).2], hd2.out, hr2.out, hb2.out⟩
        case measure => simp [intOf]; omega
      · go_wp2
        go_roundw
        case rel => exact ⟨i + 1, by omega, by simp, by rw [(rs_down hf).1], by rw [(rs_down hf).2], hd2.out, hr2.out, hb2.out⟩
        case measure => simp [intOf]; omega
    · have hi' : i = N := by have := HN.out; omega
      have HI := Lib.hid hi'; clear hi'
      rcases riD_cases f i with ⟨t, e⟩ | ⟨t1, t2, e⟩ | ⟨t1, t2, e⟩
      all_goals
        have E := Lib.hid e
        clear e
        go_wp2
        exact bodyPost_ret (v := .tuple #[(.agg #[.int .i64 ((riD f N).lo), .int .i64 ((riD f N).hi)]), .int .i64 (riD f N).code]) (by rw [← HI.out, E.out]; simp [results, Try.results37, go_sem, *]) rfl ⟨rfl, HB.out.trans (by (repeat' (first | with_reducible exact Below.refl _ _ | with_reducible assumption | with_reducible refine Below.setCell ?_ ?_ _ | with_reducible refine Below.drew ?_ | with_reducible refine below_drewN ?_ _ | with_reducible refine Below.alloc ?_ ?_ _ | with_reducible refine below_step (by assumption) ?_ ?_ | omega | exact Below.size (by assumption) | (simp; done) | (simp; omega))))⟩

set_option maxHeartbeats 1000000 in
theorem sSetBounds_no (lat n h : Int) (w : World) (p : raB lat n h = false) :
    Calls Try.prog 33 #[.int .i64 lat, .int .i64 n, .int .i64 h] w fun e w' => e = .returned (.tuple #[(.agg #[.int .i64 (0), .int .i64 (0)]), .int .i64 2]) ∧ Below w.heap.size w w' := by
  go_enter Try.func33, Try.ntmps33
  go_wp2_with (go_at_call 58; refine (sRa_any _ _ _ _).mono ?_; rintro e w' ⟨rfl, rfl⟩)
  exact bodyPost_ret (v := .tuple #[(.agg #[.int .i64 (0), .int .i64 (0)]), .int .i64 2]) (by simp [results, Try.results33, go_sem, *]) rfl ⟨rfl, by (repeat' (first | with_reducible exact Below.refl _ _ | with_reducible assumption | with_reducible refine Below.setCell ?_ ?_ _ | with_reducible refine Below.drew ?_ | with_reducible refine below_drewN ?_ _ | with_reducible refine Below.alloc ?_ ?_ _ | with_reducible refine below_step (by assumption) ?_ ?_ | omega | exact Below.size (by assumption) | (simp; done) | (simp; omega)))⟩
set_option maxRecDepth 100000 in
set_option maxHeartbeats 4000000 in
theorem sSetBounds_yes (lat n h : Int) (w : World) (p : raB lat n h = true) :
    Calls Try.prog 33 #[.int .i64 lat, .int .i64 n, .int .i64 h] w fun e w' => e = .returned (.tuple #[(.agg #[.int .i64 ((seM (dyM lat n h) 0 720).lo), .int .i64 ((seM (dyM lat n h) 0 720).hi)]), .int .i64 (seM (dyM lat n h) 0 720).code]) ∧ Below w.heap.size w w' := by
  obtain ⟨l0, l1, n0, n1, h0, h1⟩ := raB_t p
  have dd := deI_bd n
  have li : ∀ (i : Nat) (w : World), i < 720 → Calls Try.prog 60 #[(.agg #[.int .i64 (lat), .int .i64 ((deI n).lo), .int .i64 ((deI n).hi), .int .i64 (sL h), .int .i64 (sH h)]), .int .i64 (720 + i)] w fun e w' => e = .returned (.int .i64 (dyM lat n h (720 + i))) ∧ Below w.heap.size w w' :=
    fun i w hh => by
      have := sLight_any lat (deI n).lo (deI n).hi (sL h) (sH h) (720 + i) w l0 l1 (by omega) (by omega) (by omega) (by omega) (by omega) (by omega)
      simpa [dyM, ltM] using this
  have fc := dyM_cases lat n h
  generalize dyM lat n h = f at li fc ⊢
  have LI := Lib.hid li; have FC := Lib.hid fc; clear li fc
  obtain ⟨N, hN⟩ : ∃ N : Nat, N = 720 := ⟨_, rfl⟩
  rw [← hN]
  have HN := Lib.hid hN; clear hN
  go_enter Try.func33, Try.ntmps33
  go_wp2_with (go_at_call 58; refine (sRa_any _ _ _ _).mono ?_; rintro e w' ⟨rfl, rfl⟩)
  refine (sMake_any lat n h _ n0 n1 h0 h1).mono ?_
  rintro _ w1 ⟨rfl, b_w1⟩
  obtain ⟨c_w1, f_w1, z_w1⟩ := bfacts b_w1 (by first | (simp; rfl) | rfl)
  have y0_w1 : w.heap.size < w1.heap.size := (by omega)
  have k0_0_w1 : w1.cell? ⟨w.heap.size, 0, none⟩ = some (.int .i64 (0)) := (by first | exact (c_w1 _ _ (by omega)).trans (by go_simp) | go_simp)
  have l0_0_w1 : w1.frozen? ⟨w.heap.size, 0, none⟩ = false := (by first | exact (f_w1 _ _ (by omega)).trans (by go_simp) | go_simp)
  have k0_1_w1 : w1.cell? ⟨w.heap.size, 1, none⟩ = some (.int .i64 (0)) := (by first | exact (c_w1 _ _ (by omega)).trans (by go_simp) | go_simp)
  have l0_1_w1 : w1.frozen? ⟨w.heap.size, 1, none⟩ = false := (by first | exact (f_w1 _ _ (by omega)).trans (by go_simp) | go_simp)
  clear c_w1 f_w1
  have hr0 := Lib.hid (heap_below (heap_alloc_new w (.cells #[.int .i64 0, .int .i64 0] 23)) b_w1)
  have B1 : Below w.heap.size w w1 := by (repeat' (first | with_reducible exact Below.refl _ _ | with_reducible refine Below.setCell ?_ ?_ _ | with_reducible refine Below.drew ?_ | with_reducible refine below_drewN ?_ _ | with_reducible refine Below.alloc ?_ ?_ _ | with_reducible refine below_step b_w1 ?_ ?_ | omega | (simp; done) | (simp; omega)))
  have HB1 := Lib.hid B1; clear B1 b_w1
  go_wp2_with fail
  go_loopw [9, 10] (fun u k wr => ∃ i d : Nat, i + d = N ∧ k = .int .i64 (720 + i) ∧ u = .int .i64 (stU f i) ∧ seM f 0 N = seM f i d ∧ wr.heap[w1.heap.size]? = some (.cells #[.int .i64 lat, .int .i64 (deI n).lo, .int .i64 (deI n).hi, .int .i64 (sL h), .int .i64 (sH h)] 60) ∧ wr.heap[w.heap.size]? = some (.cells #[.int .i64 0, .int .i64 0] 23) ∧ Below w.heap.size w wr) (fun _ k _ => (1440 - intOf k).toNat)
  case atStart => exact ⟨0, N, by omega, rfl, rfl, rfl, heap_alloc_new _ _, heap_alloc hr0.out, HB1.out.trans (Below.alloc (Below.refl _ _) (by omega) _)⟩
  case round =>
    obtain ⟨i, d, hle, rfl, rfl, hse, hd, hr, b_wr⟩ := hrel
    have bU := stU_bd f i
    have hle' : (i : Int) + d = 720 := by have := HN.out; omega
    have HS := Lib.hid hse; have HL := Lib.hid hle; clear hse hle
    have z_hd : w1.heap.size < wr.heap.size := heap_lt hd; have k0_hd : wr.cell? ⟨w1.heap.size, 0, none⟩ = some (.int .i64 (lat)) := ((blk_facts hd).1 0).trans (by simp); have l0_hd : wr.frozen? ⟨w1.heap.size, 0, none⟩ = false := (blk_facts hd).2.1 0; have k1_hd : wr.cell? ⟨w1.heap.size, 1, none⟩ = some (.int .i64 ((deI n).lo)) := ((blk_facts hd).1 1).trans (by simp); have l1_hd : wr.frozen? ⟨w1.heap.size, 1, none⟩ = false := (blk_facts hd).2.1 1; have k2_hd : wr.cell? ⟨w1.heap.size, 2, none⟩ = some (.int .i64 ((deI n).hi)) := ((blk_facts hd).1 2).trans (by simp); have l2_hd : wr.frozen? ⟨w1.heap.size, 2, none⟩ = false := (blk_facts hd).2.1 2; have k3_hd : wr.cell? ⟨w1.heap.size, 3, none⟩ = some (.int .i64 (sL h)) := ((blk_facts hd).1 3).trans (by simp); have l3_hd : wr.frozen? ⟨w1.heap.size, 3, none⟩ = false := (blk_facts hd).2.1 3; have k4_hd : wr.cell? ⟨w1.heap.size, 4, none⟩ = some (.int .i64 (sH h)) := ((blk_facts hd).1 4).trans (by simp); have l4_hd : wr.frozen? ⟨w1.heap.size, 4, none⟩ = false := (blk_facts hd).2.1 4
    have z_hr : w.heap.size < wr.heap.size := heap_lt hr; have k0_hr : wr.cell? ⟨w.heap.size, 0, none⟩ = some (.int .i64 (0)) := ((blk_facts hr).1 0).trans (by simp); have l0_hr : wr.frozen? ⟨w.heap.size, 0, none⟩ = false := (blk_facts hr).2.1 0; have k1_hr : wr.cell? ⟨w.heap.size, 1, none⟩ = some (.int .i64 (0)) := ((blk_facts hr).1 1).trans (by simp); have l1_hr : wr.frozen? ⟨w.heap.size, 1, none⟩ = false := (blk_facts hr).2.1 1
    have HD := Lib.hid hd; have HR := Lib.hid hr; have HB := Lib.hid b_wr; clear hd hr b_wr
    cases d with
    | succ d =>
      have ht : 720 + (i : Int) < 1440 := by omega
      go_wp2_with fail
      refine (LI.out i _ (by omega)).mono ?_
      rintro _ w2 ⟨rfl, b_w2⟩
      obtain ⟨c_w2, f_w2, z_w2⟩ := bfacts b_w2 (by first | (simp; rfl) | rfl)
      have hd2 := Lib.hid (heap_below HD.out b_w2)
      have hr2 := Lib.hid (heap_below HR.out b_w2)
      have hb2 := Lib.hid (HB.out.trans (b_w2.mono (by omega)))
      have z_hr2 : w.heap.size < w2.heap.size := heap_lt hr2.out; have k0_hr2 : w2.cell? ⟨w.heap.size, 0, none⟩ = some (.int .i64 (0)) := ((blk_facts hr2.out).1 0).trans (by simp); have l0_hr2 : w2.frozen? ⟨w.heap.size, 0, none⟩ = false := (blk_facts hr2.out).2.1 0; have k1_hr2 : w2.cell? ⟨w.heap.size, 1, none⟩ = some (.int .i64 (0)) := ((blk_facts hr2.out).1 1).trans (by simp); have l1_hr2 : w2.frozen? ⟨w.heap.size, 1, none⟩ = false := (blk_facts hr2.out).2.1 1
      clear HD HR HB b_w2
      rcases FC.out (720 + i) with hf | hf | hf
      · go_wp2
        go_roundw
        case rel => exact ⟨i + 1, d, by have := HL.out; omega, by simp; omega, by simp [stU, hf], by rw [HS.out]; simp [seM, hf], hd2.out, hr2.out, hb2.out⟩
        case measure => simp [intOf]; omega
      · go_wp2
        go_roundw
        case rel => exact ⟨i + 1, d, by have := HL.out; omega, by simp; omega, by simp [stU, hf], by rw [HS.out]; simp [seM, hf], hd2.out, hr2.out, hb2.out⟩
        case measure => simp [intOf]; omega
      · by_cases u : stU f i < 0
        · have E : seM f 0 N = ⟨0, 0, 4⟩ := by rw [HS.out]; simp [seM, hf, u]
          have HE := Lib.hid E; clear E
          go_wp2
          exact bodyPost_ret (v := .tuple #[(.agg #[.int .i64 ((seM f 0 N).lo), .int .i64 ((seM f 0 N).hi)]), .int .i64 (seM f 0 N).code]) (by rw [HE.out]; simp [results, Try.results33, go_sem, *]) rfl ⟨rfl, hb2.out.trans (by (repeat' (first | with_reducible exact Below.refl _ _ | with_reducible assumption | with_reducible refine Below.setCell ?_ ?_ _ | with_reducible refine Below.drew ?_ | with_reducible refine below_drewN ?_ _ | with_reducible refine Below.alloc ?_ ?_ _ | with_reducible refine below_step (by assumption) ?_ ?_ | omega | exact Below.size (by assumption) | (simp; done) | (simp; omega))))⟩
        · have E : seM f 0 N = ⟨stU f i, 720 + i, 0⟩ := by rw [HS.out]; simp [seM, hf, u]
          have HE := Lib.hid E; clear E
          go_wp2
          exact bodyPost_ret (v := .tuple #[(.agg #[.int .i64 ((seM f 0 N).lo), .int .i64 ((seM f 0 N).hi)]), .int .i64 (seM f 0 N).code]) (by rw [HE.out]; simp [results, Try.results33, go_sem, *]) rfl ⟨rfl, hb2.out.trans (by (repeat' (first | with_reducible exact Below.refl _ _ | with_reducible assumption | with_reducible refine Below.setCell ?_ ?_ _ | with_reducible refine Below.drew ?_ | with_reducible refine below_drewN ?_ _ | with_reducible refine Below.alloc ?_ ?_ _ | with_reducible refine below_step (by assumption) ?_ ?_ | omega | exact Below.size (by assumption) | (simp; done) | (simp; omega))))⟩
    | zero =>
      have ht : ¬ 720 + (i : Int) < 1440 := by omega
      have E : seM f 0 N = ⟨0, 0, 4⟩ := by rw [HS.out]; rfl
      have HE := Lib.hid E; clear E
      go_wp2
      exact bodyPost_ret (v := .tuple #[(.agg #[.int .i64 ((seM f 0 N).lo), .int .i64 ((seM f 0 N).hi)]), .int .i64 (seM f 0 N).code]) (by rw [HE.out]; simp [results, Try.results33, go_sem, *]) rfl ⟨rfl, HB.out.trans (by (repeat' (first | with_reducible exact Below.refl _ _ | with_reducible assumption | with_reducible refine Below.setCell ?_ ?_ _ | with_reducible refine Below.drew ?_ | with_reducible refine below_drewN ?_ _ | with_reducible refine Below.alloc ?_ ?_ _ | with_reducible refine below_step (by assumption) ?_ ?_ | omega | exact Below.size (by assumption) | (simp; done) | (simp; omega))))⟩


end Go.Proofs.Ytikmepppnechaaa
