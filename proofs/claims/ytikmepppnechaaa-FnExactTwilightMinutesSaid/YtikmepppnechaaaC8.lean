/- What the program's TwilightMinutes returns. -/
import Derived.Test.YtikmepppnechaaaC7
namespace Go.Proofs.Ytikmepppnechaaa
set_option linter.unusedVariables false
set_option linter.unusedSimpArgs false
open Go.RowKit


set_option maxHeartbeats 1000000 in
theorem Twilight_no (lat n u l : Int) (w : World) (p : (raB lat n u && (raB lat n l && decide (l ≤ u))) = false) :
    Calls Try.prog 32 #[.int .i64 lat, .int .i64 n, .int .i64 u, .int .i64 l] w fun e w' => e = .returned (.tuple #[(.agg #[.int .i64 (0), .int .i64 (0)]), .int .i64 2]) ∧ Below w.heap.size w w' := by
  have se := fun g cap w h1 h2 h3 => seen2_any lat n u l g cap w h1 h2 h3
  cases q : (raB lat n u && raB lat n l)
  · rw [q] at se
    have SE := Lib.hid se; clear se p q
    go_enter Try.func32, Try.ntmps32
    go_wp2_with fail
    refine (SE.out _ _ _ (by simp) (by go_simp) (by go_simp)).mono ?_
    rintro _ w1 ⟨rfl, b_w1⟩
    obtain ⟨c_w1, f_w1, z_w1⟩ := bfacts b_w1 (by first | (simp; rfl) | rfl)
    have y0_w1 : w.heap.size < w1.heap.size := (by omega)
    have k0_0_w1 : w1.cell? ⟨w.heap.size, 0, none⟩ = some (.int .i64 (0)) := (by first | exact (c_w1 _ _ (by omega)).trans (by go_simp) | go_simp)
    have l0_0_w1 : w1.frozen? ⟨w.heap.size, 0, none⟩ = false := (by first | exact (f_w1 _ _ (by omega)).trans (by go_simp) | go_simp)
    have k0_1_w1 : w1.cell? ⟨w.heap.size, 1, none⟩ = some (.int .i64 (0)) := (by first | exact (c_w1 _ _ (by omega)).trans (by go_simp) | go_simp)
    have l0_1_w1 : w1.frozen? ⟨w.heap.size, 1, none⟩ = false := (by first | exact (f_w1 _ _ (by omega)).trans (by go_simp) | go_simp)
    clear c_w1 f_w1
    go_wp2
    exact bodyPost_ret (v := .tuple #[(.agg #[.int .i64 (0), .int .i64 (0)]), .int .i64 2]) (by simp [results, Try.results32, go_sem, *]) rfl ⟨rfl, by (repeat' (first | with_reducible exact Below.refl _ _ | with_reducible refine Below.setCell ?_ ?_ _ | with_reducible refine Below.drew ?_ | with_reducible refine below_drewN ?_ _ | with_reducible refine Below.alloc ?_ ?_ _ | with_reducible refine below_step b_w1 ?_ ?_ | omega | (simp; done) | (simp; omega)))⟩
  · have p3 : u < l := by rw [← Bool.and_assoc, q] at p; simpa using p
    rw [q] at se
    have SE := Lib.hid se; clear se p q
    go_enter Try.func32, Try.ntmps32
    go_wp2_with fail
    refine (SE.out _ _ _ (by simp) (by go_simp) (by go_simp)).mono ?_
    rintro _ w1 ⟨rfl, b_w1⟩
    obtain ⟨c_w1, f_w1, z_w1⟩ := bfacts b_w1 (by first | (simp; rfl) | rfl)
    have y0_w1 : w.heap.size < w1.heap.size := (by omega)
    have k0_0_w1 : w1.cell? ⟨w.heap.size, 0, none⟩ = some (.int .i64 (0)) := (by first | exact (c_w1 _ _ (by omega)).trans (by go_simp) | go_simp)
    have l0_0_w1 : w1.frozen? ⟨w.heap.size, 0, none⟩ = false := (by first | exact (f_w1 _ _ (by omega)).trans (by go_simp) | go_simp)
    have k0_1_w1 : w1.cell? ⟨w.heap.size, 1, none⟩ = some (.int .i64 (0)) := (by first | exact (c_w1 _ _ (by omega)).trans (by go_simp) | go_simp)
    have l0_1_w1 : w1.frozen? ⟨w.heap.size, 1, none⟩ = false := (by first | exact (f_w1 _ _ (by omega)).trans (by go_simp) | go_simp)
    clear c_w1 f_w1
    go_wp2
    exact bodyPost_ret (v := .tuple #[(.agg #[.int .i64 (0), .int .i64 (0)]), .int .i64 2]) (by simp [results, Try.results32, go_sem, *]) rfl ⟨rfl, by (repeat' (first | with_reducible exact Below.refl _ _ | with_reducible refine Below.setCell ?_ ?_ _ | with_reducible refine Below.drew ?_ | with_reducible refine below_drewN ?_ _ | with_reducible refine Below.alloc ?_ ?_ _ | with_reducible refine below_step b_w1 ?_ ?_ | omega | (simp; done) | (simp; omega)))⟩
set_option maxRecDepth 100000 in
set_option maxHeartbeats 8000000 in
theorem Twilight_yes (lat n u l : Int) (w : World) (p : (raB lat n u && (raB lat n l && decide (l ≤ u))) = true) :
    Calls Try.prog 32 #[.int .i64 lat, .int .i64 n, .int .i64 u, .int .i64 l] w fun e w' => e = .returned (.tuple #[(.agg #[.int .i64 (twS (dyM lat n u) (dyM lat n l) 1440), .int .i64 (twM (dyM lat n u) (dyM lat n l) 1440)]), .int .i64 0]) ∧ Below w.heap.size w w' := by
  have se := fun g cap w h1 h2 h3 => seen2_any lat n u l g cap w h1 h2 h3
  obtain ⟨p1, p2, p3⟩ : raB lat n u = true ∧ raB lat n l = true ∧ l ≤ u := by simpa [Bool.and_eq_true] using p
  rw [p1, p2] at se
  have SE := Lib.hid se; clear se p
  obtain ⟨l0, l1, n0, n1, h0, h1⟩ := raB_t p1
  obtain ⟨_, _, _, _, h2, h3⟩ := raB_t p2
  have li1 := fun w => lights_any lat n u w l0 l1 n0 n1 h0 h1
  have li2 := fun w => lights_any lat n l w l0 l1 n0 n1 h2 h3
  have fc1 := dyM_cases lat n u
  have fc2 := dyM_cases lat n l
  generalize dyM lat n u = f1 at li1 fc1 ⊢
  generalize dyM lat n l = f2 at li2 fc2 ⊢
  have LI1 := Lib.hid li1; have LI2 := Lib.hid li2; have FC1 := Lib.hid fc1; have FC2 := Lib.hid fc2; clear li1 li2 fc1 fc2 p1 p2
  obtain ⟨N, hN⟩ : ∃ N : Nat, N = 1440 := ⟨_, rfl⟩
  rw [← hN]
  have HN := Lib.hid hN; clear hN
  go_enter Try.func32, Try.ntmps32
  go_wp2_with fail
  refine (SE.out _ _ _ (by simp) (by go_simp) (by go_simp)).mono ?_
  rintro _ w1 ⟨rfl, b_w1⟩
  obtain ⟨c_w1, f_w1, z_w1⟩ := bfacts b_w1 (by first | (simp; rfl) | rfl)
  have y0_w1 : w.heap.size < w1.heap.size := (by omega)
  have k0_0_w1 : w1.cell? ⟨w.heap.size, 0, none⟩ = some (.int .i64 (0)) := (by first | exact (c_w1 _ _ (by omega)).trans (by go_simp) | go_simp)
  have l0_0_w1 : w1.frozen? ⟨w.heap.size, 0, none⟩ = false := (by first | exact (f_w1 _ _ (by omega)).trans (by go_simp) | go_simp)
  have k0_1_w1 : w1.cell? ⟨w.heap.size, 1, none⟩ = some (.int .i64 (0)) := (by first | exact (c_w1 _ _ (by omega)).trans (by go_simp) | go_simp)
  have l0_1_w1 : w1.frozen? ⟨w.heap.size, 1, none⟩ = false := (by first | exact (f_w1 _ _ (by omega)).trans (by go_simp) | go_simp)
  clear c_w1 f_w1
  have hr0 := Lib.hid (heap_below (heap_alloc (heap_alloc_new w (.cells #[.int .i64 0, .int .i64 0] 23))) b_w1)
  go_wp2_with fail
  refine (LI1.out _).mono ?_
  rintro _ w2 ⟨g1, cap1, rfl, hg1, hg2, hg3, hg4, hg5, b_w2⟩
  have hr1 := Lib.hid (heap_below hr0.out b_w2)
  have z_w2 := b_w2.size
  have H5 := Lib.hid hg5; clear hg5 hg3 hg4
  go_wp2_with fail
  refine (LI2.out _).mono ?_
  rintro _ w3 ⟨g2, cap2, rfl, hk1, hk2, hk3, hk4, hk5, b_w3⟩
  have hr2 := Lib.hid (heap_below hr1.out b_w3)
  have z_w3 := b_w3.size
  have K5 := Lib.hid hk5
  have J5 : ∀ j : Nat, j < 1440 → w3.cell? ⟨g1, j, none⟩ = some (.int .i64 (f1 j)) := fun j hj => (b_w3.cell (p := ⟨g1, j, none⟩) hg2).trans (H5.out j hj)
  have J5 := Lib.hid J5
  have hg3 : g1 < w3.heap.size := by omega
  clear hk5 hk3 hk4 H5 hr0 hr1
  have B1 : Below w.heap.size w w3 := by (repeat' (first | with_reducible exact Below.refl _ _ | with_reducible refine Below.setCell ?_ ?_ _ | with_reducible refine Below.drew ?_ | with_reducible refine below_drewN ?_ _ | with_reducible refine Below.alloc ?_ ?_ _ | with_reducible refine below_step b_w3 ?_ ?_ | with_reducible refine below_step b_w2 ?_ ?_ | with_reducible refine below_step b_w1 ?_ ?_ | omega | (simp; done) | (simp; omega)))
  have HB1 := Lib.hid B1; clear B1 b_w1 b_w2 b_w3
  go_wp2_with fail
  go_loopw [39] (fun k wr => ∃ i : Nat, i ≤ 1440 ∧ k = .int .i64 i ∧ wr.heap[w3.heap.size]? = some (.cells #[.int .i64 (twS f1 f2 i), .int .i64 (twM f1 f2 i)] 23) ∧ wr.heap[w.heap.size]? = some (.cells #[.int .i64 0, .int .i64 0] 23) ∧ Below w3.heap.size w3 wr ∧ w3.heap.size + 1 ≤ wr.heap.size) (fun k _ => (1440 - intOf k).toNat)
  case atStart => exact ⟨0, by omega, rfl, heap_alloc_new _ _, heap_alloc hr2.out, Below.alloc (Below.refl _ _) (Nat.le_refl _) _, by simp⟩
  case round =>
    obtain ⟨i, hle, rfl, hd, hr, b_wr, z_wr⟩ := hrel
    have bS := twS_bd f1 f2 i
    have bM := twM_bd f1 f2 i
    have z_hd : w3.heap.size < wr.heap.size := heap_lt hd; have k0_hd : wr.cell? ⟨w3.heap.size, 0, none⟩ = some (.int .i64 (twS f1 f2 i)) := ((blk_facts hd).1 0).trans (by simp); have l0_hd : wr.frozen? ⟨w3.heap.size, 0, none⟩ = false := (blk_facts hd).2.1 0; have k1_hd : wr.cell? ⟨w3.heap.size, 1, none⟩ = some (.int .i64 (twM f1 f2 i)) := ((blk_facts hd).1 1).trans (by simp); have l1_hd : wr.frozen? ⟨w3.heap.size, 1, none⟩ = false := (blk_facts hd).2.1 1
    have z_hr : w.heap.size < wr.heap.size := heap_lt hr; have k0_hr : wr.cell? ⟨w.heap.size, 0, none⟩ = some (.int .i64 (0)) := ((blk_facts hr).1 0).trans (by simp); have l0_hr : wr.frozen? ⟨w.heap.size, 0, none⟩ = false := (blk_facts hr).2.1 0; have k1_hr : wr.cell? ⟨w.heap.size, 1, none⟩ = some (.int .i64 (0)) := ((blk_facts hr).1 1).trans (by simp); have l1_hr : wr.frozen? ⟨w.heap.size, 1, none⟩ = false := (blk_facts hr).2.1 1
    have HD := Lib.hid hd; have HR := Lib.hid hr; have HB := Lib.hid b_wr; clear hd hr b_wr
    have hwn : w.heap.size ≠ w3.heap.size := by have := heap_lt hr2.out; omega
    by_cases ht : (i : Int) < 1440
    · have hx : wr.cell? ⟨g1, i, none⟩ = some (.int .i64 (f1 i)) := (HB.out.cell (p := ⟨g1, i, none⟩) hg3).trans (J5.out i (by omega))
      have hy : wr.cell? ⟨g2, i, none⟩ = some (.int .i64 (f2 i)) := (HB.out.cell (p := ⟨g2, i, none⟩) hk2).trans (K5.out i (by omega))
      rcases FC1.out i with hf | hf | hf <;> rcases FC2.out i with hg | hg | hg
      all_goals
        obtain ⟨ts, tm⟩ := tw_step f1 f2 i _ _ rfl rfl
        simp [hf, hg] at ts tm
        have TS := Lib.hid ts; have TM := Lib.hid tm; clear ts tm
        go_wp2
        go_roundw
        case rel =>
          refine ⟨i + 1, by omega, by simp, ?_⟩
          rw [TS.out, TM.out]
          first
            | exact ⟨HD.out, HR.out, HB.out, z_wr⟩
            | exact ⟨heap_set1 _ HD.out, heap_setn HR.out hwn, Below.setCell HB.out (Nat.le_refl _) _, by simpa using z_wr⟩
            | exact ⟨heap_set1 _ (heap_set0 _ HD.out), heap_setn (heap_setn HR.out hwn) hwn, Below.setCell (Below.setCell HB.out (Nat.le_refl _) _) (Nat.le_refl _) _, by simpa using z_wr⟩
        case measure => simp [intOf]; omega
    · have hi' : i = N := by have := HN.out; omega
      have HI := Lib.hid hi'; clear hi'
      have hB := Lib.hid (HB1.out.trans (HB.out.mono (by have := heap_lt hr2.out; omega)))
      go_wp2
      exact bodyPost_ret (v := .tuple #[(.agg #[.int .i64 (twS f1 f2 N), .int .i64 (twM f1 f2 N)]), .int .i64 0]) (by rw [← HI.out]; simp [results, Try.results32, go_sem, *]) rfl ⟨rfl, hB.out.trans (by (repeat' (first | with_reducible exact Below.refl _ _ | with_reducible assumption | with_reducible refine Below.setCell ?_ ?_ _ | with_reducible refine Below.drew ?_ | with_reducible refine below_drewN ?_ _ | with_reducible refine Below.alloc ?_ ?_ _ | with_reducible refine below_step (by assumption) ?_ ?_ | omega | exact Below.size (by assumption) | (simp; done) | (simp; omega))))⟩


end Go.Proofs.Ytikmepppnechaaa
