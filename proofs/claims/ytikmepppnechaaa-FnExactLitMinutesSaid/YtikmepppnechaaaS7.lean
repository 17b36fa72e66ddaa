/- What the reference's functions on longest days, twilight and lamps' errors return. -/
import Derived.Test.YtikmepppnechaaaS6
namespace Go.Proofs.Ytikmepppnechaaa
set_option linter.unusedVariables false
set_option linter.unusedSimpArgs false
open Go.RowKit


set_option maxHeartbeats 1000000 in
theorem sLongestDay_no (lat a b h : Int) (w : World) (p : loB lat a b h = false) :
    Calls Try.prog 39 #[.int .i64 lat, .int .i64 a, .int .i64 b, .int .i64 h] w fun e w' => e = .returned (.tuple #[.int .i64 0, .int .i64 2]) ∧ Below w.heap.size w w' := by
  cases p1 : raB lat a h
  · clear p
    go_enter Try.func39, Try.ntmps39
    go_wp2_with (go_at_call 58; refine (sRa_any _ _ _ _).mono ?_; rintro e w' ⟨rfl, rfl⟩)
    exact bodyPost_ret (v := .tuple #[.int .i64 0, .int .i64 2]) (by simp [results, Try.results39, go_sem, *]) rfl ⟨rfl, by (repeat' (first | with_reducible exact Below.refl _ _ | with_reducible assumption | with_reducible refine Below.setCell ?_ ?_ _ | with_reducible refine Below.drew ?_ | with_reducible refine below_drewN ?_ _ | with_reducible refine Below.alloc ?_ ?_ _ | with_reducible refine below_step (by assumption) ?_ ?_ | omega | exact Below.size (by assumption) | (simp; done) | (simp; omega)))⟩
  · cases p2 : dayB b
    · clear p
      go_enter Try.func39, Try.ntmps39
      go_wp2_with (first | (go_at_call 58; refine (sRa_any _ _ _ _).mono ?_; rintro e w' ⟨rfl, rfl⟩) | (go_at_call 43; refine (sHas_any _ _).mono ?_; rintro e w' ⟨rfl, rfl⟩))
      exact bodyPost_ret (v := .tuple #[.int .i64 0, .int .i64 2]) (by simp [results, Try.results39, go_sem, *]) rfl ⟨rfl, by (repeat' (first | with_reducible exact Below.refl _ _ | with_reducible assumption | with_reducible refine Below.setCell ?_ ?_ _ | with_reducible refine Below.drew ?_ | with_reducible refine below_drewN ?_ _ | with_reducible refine Below.alloc ?_ ?_ _ | with_reducible refine below_step (by assumption) ?_ ?_ | omega | exact Below.size (by assumption) | (simp; done) | (simp; omega)))⟩
    · have p3 : inB b a (a + 39) = false := by unfold loB at p; rw [p1, p2] at p; simpa using p
      obtain ⟨l0, l1, n0, n1, h0, h1⟩ := raB_t p1
      clear p
      go_enter Try.func39, Try.ntmps39
      go_wp2_with (first | (go_at_call 58; refine (sRa_any _ _ _ _).mono ?_; rintro e w' ⟨rfl, rfl⟩) | (go_at_call 43; refine (sHas_any _ _).mono ?_; rintro e w' ⟨rfl, rfl⟩) | (go_at_call 74; refine (sIn_any _ _ _ _).mono ?_; rintro e w' ⟨rfl, rfl⟩))
      exact bodyPost_ret (v := .tuple #[.int .i64 0, .int .i64 2]) (by simp [results, Try.results39, go_sem, *]) rfl ⟨rfl, by (repeat' (first | with_reducible exact Below.refl _ _ | with_reducible assumption | with_reducible refine Below.setCell ?_ ?_ _ | with_reducible refine Below.drew ?_ | with_reducible refine below_drewN ?_ _ | with_reducible refine Below.alloc ?_ ?_ _ | with_reducible refine below_step (by assumption) ?_ ?_ | omega | exact Below.size (by assumption) | (simp; done) | (simp; omega)))⟩
set_option maxHeartbeats 4000000 in
theorem sLongestDay_yes (lat a b h : Int) (w : World) (p : loB lat a b h = true) :
    Calls Try.prog 39 #[.int .i64 lat, .int .i64 a, .int .i64 b, .int .i64 h] w fun e w' => e = .returned (.tuple #[.int .i64 (a + (lgB (loG lat a h) (b - a + 1).toNat).1), .int .i64 0]) ∧ Below w.heap.size w w' := by
  obtain ⟨p1, p2, p3⟩ : raB lat a h = true ∧ dayB b = true ∧ inB b a (a + 39) = true := by unfold loB at p; simpa [Bool.and_eq_true] using p
  clear p
  obtain ⟨l0, l1, n0, n1, h0, h1⟩ := raB_t p1
  have q2 := dayB_w p2
  have q3 := inB_iff.1 p3
  obtain ⟨E0, E1, G, D, mk, co, gb, hG⟩ : ∃ (E0 E1 G D : Nat → Int), (∀ (i : Nat) w, (i : Int) ≤ b - a → Calls Try.prog 61 #[.int .i64 lat, .int .i64 (a + i), .int .i64 h] w fun e w' => e = .returned (.agg #[.int .i64 (lat), .int .i64 (E0 i), .int .i64 (E1 i), .int .i64 (sL h), .int .i64 (sH h)]) ∧ Below w.heap.size w w') ∧
      (∀ (i : Nat) w, Calls Try.prog 72 #[(.agg #[.int .i64 (lat), .int .i64 (E0 i), .int .i64 (E1 i), .int .i64 (sL h), .int .i64 (sH h)])] w fun e w' => e = .returned (.tuple #[.int .i64 (G i), .int .i64 (D i)]) ∧ Below w.heap.size w w') ∧ (∀ i, 0 ≤ G i ∧ G i ≤ 1440) ∧ G = loG lat a h :=
    ⟨fun i => (deI (a + i)).lo, fun i => (deI (a + i)).hi, loG lat a h, fun i => dnN (dyM lat (a + i) h) 1440, fun i w hi => sMake_any lat (a + i) h w (by omega) (by omega) h0 h1,
      fun i w => by have dd := deI_bd (a + i); exact sCountD_any lat (deI (a + i)).lo (deI (a + i)).hi (sL h) (sH h) w l0 l1 (by omega) (by omega) (by omega) (by omega), fun i => by have := upN_bd (dyM lat (a + i) h) 1440; unfold loG; omega, rfl⟩
  rw [← hG]
  have MK := Lib.hid mk; have CO := Lib.hid co; have GB := Lib.hid gb; clear mk co gb hG
  obtain ⟨N, hN⟩ : ∃ N : Nat, N = (b - a + 1).toNat := ⟨_, rfl⟩
  rw [← hN]
  have hN' : (N : Int) = b - a + 1 := by omega
  have HN := Lib.hid hN'; clear hN hN'
  go_enter Try.func39, Try.ntmps39
  go_wp2_with (first | (go_at_call 58; refine (sRa_any _ _ _ _).mono ?_; rintro e w' ⟨rfl, rfl⟩) | (go_at_call 43; refine (sHas_any _ _).mono ?_; rintro e w' ⟨rfl, rfl⟩) | (go_at_call 74; refine (sIn_any _ _ _ _).mono ?_; rintro e w' ⟨rfl, rfl⟩))
  go_loopw [10, 11, 12] (fun u v k wr => ∃ i : Nat, a + i ≤ b + 1 ∧ k = .int .i64 (a + i) ∧ u = .int .i64 (a + (lgB G i).1) ∧ v = .int .i64 (lgB G i).2 ∧ Below w.heap.size w wr) (fun _ _ k _ => (b + 1 - intOf k).toNat)
  case atStart => exact ⟨0, by omega, by simp, by simp [lgB], by simp [lgB], Below.refl _ _⟩
  case round =>
    obtain ⟨i, hle, rfl, rfl, rfl, b_wr⟩ := hrel
    have bB := lgB_bd G 1440 (by omega) GB.out i
    have bG := GB.out i
    have z_wr := b_wr.size
    have HB := Lib.hid b_wr; clear b_wr
    by_cases ht : a + (i : Int) ≤ b
    · go_wp2_with fail
      refine (MK.out i _ (by omega)).mono ?_
      rintro _ w2 ⟨rfl, b_w2⟩
      obtain ⟨c_w2, f_w2, z_w2⟩ := bfacts b_w2 (by first | (simp; rfl) | rfl)
      go_wp2_with fail
      refine (CO.out i _).mono ?_
      rintro _ w3 ⟨rfl, b_w3⟩
      obtain ⟨c_w3, f_w3, z_w3⟩ := bfacts b_w3 (by first | (simp; rfl) | rfl)
      have hb3 := Lib.hid ((HB.out.trans (b_w2.mono (by omega))).trans (b_w3.mono (by omega)))
      clear HB b_w2 b_w3
      by_cases u : G i > (lgB G i).2
      · go_wp2
        go_roundw
        case rel => exact ⟨i + 1, by omega, by simp; omega, by rw [lgB_yes (g := G) (k := i) (by omega)], by rw [lgB_yes (g := G) (k := i) (by omega)], hb3.out⟩
        case measure => simp [intOf]; omega
      · go_wp2
        go_roundw
        case rel => exact ⟨i + 1, by omega, by simp; omega, by rw [lgB_no (g := G) (k := i) (by omega)], by rw [lgB_no (g := G) (k := i) (by omega)], hb3.out⟩
        case measure => simp [intOf]; omega
    · have hi' : i = N := by have := HN.out; omega
      have HI := Lib.hid hi'; clear hi'
      go_wp2
      exact bodyPost_ret (v := .tuple #[.int .i64 (a + (lgB G N).1), .int .i64 0]) (by rw [← HI.out]; simp [results, Try.results39, go_sem, *]) rfl ⟨rfl, HB.out.trans (by (repeat' (first | with_reducible exact Below.refl _ _ | with_reducible assumption | with_reducible refine Below.setCell ?_ ?_ _ | with_reducible refine Below.drew ?_ | with_reducible refine below_drewN ?_ _ | with_reducible refine Below.alloc ?_ ?_ _ | with_reducible refine below_step (by assumption) ?_ ?_ | omega | exact Below.size (by assumption) | (simp; done) | (simp; omega))))⟩

set_option maxHeartbeats 1000000 in
theorem sTwilight_no (lat n u l : Int) (w : World) (p : (raB lat n u && (raB lat n l && decide (l ≤ u))) = false) :
    Calls Try.prog 31 #[.int .i64 lat, .int .i64 n, .int .i64 u, .int .i64 l] w fun e w' => e = .returned (.tuple #[(.agg #[.int .i64 (0), .int .i64 (0)]), .int .i64 2]) ∧ Below w.heap.size w w' := by
  cases p1 : raB lat n u
  · clear p
    go_enter Try.func31, Try.ntmps31
    go_wp2_with (go_at_call 58; refine (sRa_any _ _ _ _).mono ?_; rintro e w' ⟨rfl, rfl⟩)
    exact bodyPost_ret (v := .tuple #[(.agg #[.int .i64 (0), .int .i64 (0)]), .int .i64 2]) (by simp [results, Try.results31, go_sem, *]) rfl ⟨rfl, by (repeat' (first | with_reducible exact Below.refl _ _ | with_reducible assumption | with_reducible refine Below.setCell ?_ ?_ _ | with_reducible refine Below.drew ?_ | with_reducible refine below_drewN ?_ _ | with_reducible refine Below.alloc ?_ ?_ _ | with_reducible refine below_step (by assumption) ?_ ?_ | omega | exact Below.size (by assumption) | (simp; done) | (simp; omega)))⟩
  · cases p2 : raB lat n l
    · clear p
      go_enter Try.func31, Try.ntmps31
      go_wp2_with (go_at_call 58; refine (sRa_any _ _ _ _).mono ?_; rintro e w' ⟨rfl, rfl⟩)
      exact bodyPost_ret (v := .tuple #[(.agg #[.int .i64 (0), .int .i64 (0)]), .int .i64 2]) (by simp [results, Try.results31, go_sem, *]) rfl ⟨rfl, by (repeat' (first | with_reducible exact Below.refl _ _ | with_reducible assumption | with_reducible refine Below.setCell ?_ ?_ _ | with_reducible refine Below.drew ?_ | with_reducible refine below_drewN ?_ _ | with_reducible refine Below.alloc ?_ ?_ _ | with_reducible refine below_step (by assumption) ?_ ?_ | omega | exact Below.size (by assumption) | (simp; done) | (simp; omega)))⟩
    · have p3 : u < l := by rw [p1, p2] at p; simpa using p
      clear p
      go_enter Try.func31, Try.ntmps31
      go_wp2_with (go_at_call 58; refine (sRa_any _ _ _ _).mono ?_; rintro e w' ⟨rfl, rfl⟩)
      exact bodyPost_ret (v := .tuple #[(.agg #[.int .i64 (0), .int .i64 (0)]), .int .i64 2]) (by simp [results, Try.results31, go_sem, *]) rfl ⟨rfl, by (repeat' (first | with_reducible exact Below.refl _ _ | with_reducible assumption | with_reducible refine Below.setCell ?_ ?_ _ | with_reducible refine Below.drew ?_ | with_reducible refine below_drewN ?_ _ | with_reducible refine Below.alloc ?_ ?_ _ | with_reducible refine below_step (by assumption) ?_ ?_ | omega | exact Below.size (by assumption) | (simp; done) | (simp; omega)))⟩
set_option maxHeartbeats 8000000 in
theorem sTwilight_yes (lat n u l : Int) (w : World) (p : (raB lat n u && (raB lat n l && decide (l ≤ u))) = true) :
    Calls Try.prog 31 #[.int .i64 lat, .int .i64 n, .int .i64 u, .int .i64 l] w fun e w' => e = .returned (.tuple #[(.agg #[.int .i64 (twS (dyM lat n u) (dyM lat n l) 1440), .int .i64 (twM (dyM lat n u) (dyM lat n l) 1440)]), .int .i64 0]) ∧ Below w.heap.size w w' := by
  obtain ⟨p1, p2, p3⟩ : raB lat n u = true ∧ raB lat n l = true ∧ l ≤ u := by simpa [Bool.and_eq_true] using p
  clear p
  obtain ⟨l0, l1, n0, n1, h0, h1⟩ := raB_t p1
  obtain ⟨_, _, _, _, h2, h3⟩ := raB_t p2
  have dd := deI_bd n
  have li : ∀ (h : Int) (i : Nat) (w : World), i < 1440 → Calls Try.prog 60 #[(.agg #[.int .i64 (lat), .int .i64 ((deI n).lo), .int .i64 ((deI n).hi), .int .i64 (sL h), .int .i64 (sH h)]), .int .i64 i] w fun e w' => e = .returned (.int .i64 (dyM lat n h i)) ∧ Below w.heap.size w w' :=
    fun h i w hh => sLight_any lat (deI n).lo (deI n).hi (sL h) (sH h) i w l0 l1 (by omega) (by omega) (by omega) (by omega) (by omega) (by omega)
  have li1 := li u
  have li2 := li l
  have fc1 := dyM_cases lat n u
  have fc2 := dyM_cases lat n l
  clear li
  have mk1 := fun w => sMake_any lat n u w n0 n1 h0 h1
  have mk2 := fun w => sMake_any lat n l w n0 n1 h2 h3
  generalize dyM lat n u = f at li1 fc1 ⊢
  generalize dyM lat n l = g at li2 fc2 ⊢
  generalize sL u = u0 at mk1 li1
  generalize sH u = u1 at mk1 li1
  generalize sL l = v0 at mk2 li2
  generalize sH l = v1 at mk2 li2
  generalize (deI n).lo = d0 at mk1 mk2 li1 li2
  generalize (deI n).hi = d1 at mk1 mk2 li1 li2
  have MK1 := Lib.hid mk1; have MK2 := Lib.hid mk2; clear mk1 mk2
  have LI1 := Lib.hid li1; have LI2 := Lib.hid li2; have FC1 := Lib.hid fc1; have FC2 := Lib.hid fc2; clear li1 li2 fc1 fc2
  obtain ⟨N, hN⟩ : ∃ N : Nat, N = 1440 := ⟨_, rfl⟩
  rw [← hN]
  have HN := Lib.hid hN; clear hN
  go_enter Try.func31, Try.ntmps31
  go_wp2_with (go_at_call 58; refine (sRa_any _ _ _ _).mono ?_; rintro e w' ⟨rfl, rfl⟩)
  refine (MK1.out _).mono ?_
  rintro _ w1 ⟨rfl, b_w1⟩
  obtain ⟨c_w1, f_w1, z_w1⟩ := bfacts b_w1 (by first | (simp; rfl) | rfl)
  have y0_w1 : w.heap.size < w1.heap.size := (by omega)
  have k0_0_w1 : w1.cell? ⟨w.heap.size, 0, none⟩ = some (.int .i64 (0)) := (by first | exact (c_w1 _ _ (by omega)).trans (by go_simp) | go_simp)
  have l0_0_w1 : w1.frozen? ⟨w.heap.size, 0, none⟩ = false := (by first | exact (f_w1 _ _ (by omega)).trans (by go_simp) | go_simp)
  have k0_1_w1 : w1.cell? ⟨w.heap.size, 1, none⟩ = some (.int .i64 (0)) := (by first | exact (c_w1 _ _ (by omega)).trans (by go_simp) | go_simp)
  have l0_1_w1 : w1.frozen? ⟨w.heap.size, 1, none⟩ = false := (by first | exact (f_w1 _ _ (by omega)).trans (by go_simp) | go_simp)
  clear c_w1 f_w1
  have hr0 := Lib.hid (heap_below (heap_alloc_new w (.cells #[.int .i64 0, .int .i64 0] 23)) b_w1)
  go_wp2_with fail
  refine (MK2.out _).mono ?_
  rintro _ w2 ⟨rfl, b_w2⟩
  obtain ⟨c_w2, f_w2, z_w2⟩ := bfacts b_w2 (by first | (simp; rfl) | rfl)
  have y0_w2 : w.heap.size < w2.heap.size := (by omega)
  have k0_0_w2 : w2.cell? ⟨w.heap.size, 0, none⟩ = some (.int .i64 (0)) := (by first | exact (c_w2 _ _ (by omega)).trans (by go_simp) | go_simp)
  have l0_0_w2 : w2.frozen? ⟨w.heap.size, 0, none⟩ = false := (by first | exact (f_w2 _ _ (by omega)).trans (by go_simp) | go_simp)
  have k0_1_w2 : w2.cell? ⟨w.heap.size, 1, none⟩ = some (.int .i64 (0)) := (by first | exact (c_w2 _ _ (by omega)).trans (by go_simp) | go_simp)
  have l0_1_w2 : w2.frozen? ⟨w.heap.size, 1, none⟩ = false := (by first | exact (f_w2 _ _ (by omega)).trans (by go_simp) | go_simp)
  clear c_w2 f_w2
  have hr1 := Lib.hid (heap_below hr0.out b_w2)
  have B1 : Below w.heap.size w w2 := by (repeat' (first | with_reducible exact Below.refl _ _ | with_reducible refine Below.setCell ?_ ?_ _ | with_reducible refine Below.drew ?_ | with_reducible refine below_drewN ?_ _ | with_reducible refine Below.alloc ?_ ?_ _ | with_reducible refine below_step b_w2 ?_ ?_ | with_reducible refine below_step b_w1 ?_ ?_ | omega | (simp; done) | (simp; omega)))
  have HB1 := Lib.hid B1; clear B1 b_w1 b_w2 hr0
  go_wp2_with fail
  go_loopw [12, 13, 14] (fun s m k wr => ∃ i : Nat, i ≤ 1440 ∧ k = .int .i64 i ∧ s = .int .i64 (twS f g i) ∧ m = .int .i64 (twM f g i) ∧ wr.heap[w2.heap.size]? = some (.cells #[.int .i64 lat, .int .i64 d0, .int .i64 d1, .int .i64 u0, .int .i64 u1] 60) ∧ wr.heap[w2.heap.size + 1]? = some (.cells #[.int .i64 lat, .int .i64 d0, .int .i64 d1, .int .i64 v0, .int .i64 v1] 60) ∧ wr.heap[w.heap.size]? = some (.cells #[.int .i64 0, .int .i64 0] 23) ∧ Below w.heap.size w wr) (fun _ _ k _ => (1440 - intOf k).toNat)
  case atStart =>
    refine ⟨0, by omega, rfl, rfl, rfl, heap_alloc (heap_alloc_new _ _), ?_, heap_alloc (heap_alloc hr1.out), HB1.out.trans (Below.alloc (Below.alloc (Below.refl _ _) (by omega) _) (by simp; omega) _)⟩
    have := heap_alloc_new (w2.alloc (.cells #[.int .i64 lat, .int .i64 d0, .int .i64 d1, .int .i64 u0, .int .i64 u1] 60)) (.cells #[.int .i64 lat, .int .i64 d0, .int .i64 d1, .int .i64 v0, .int .i64 v1] 60)
    simpa using this
  case round =>
    obtain ⟨i, hle, rfl, rfl, rfl, hd, he, hr, b_wr⟩ := hrel
    have bS := twS_bd f g i
    have bM := twM_bd f g i
    have z_hd : w2.heap.size < wr.heap.size := heap_lt hd; have k0_hd : wr.cell? ⟨w2.heap.size, 0, none⟩ = some (.int .i64 (lat)) := ((blk_facts hd).1 0).trans (by simp); have l0_hd : wr.frozen? ⟨w2.heap.size, 0, none⟩ = false := (blk_facts hd).2.1 0; have k1_hd : wr.cell? ⟨w2.heap.size, 1, none⟩ = some (.int .i64 (d0)) := ((blk_facts hd).1 1).trans (by simp); have l1_hd : wr.frozen? ⟨w2.heap.size, 1, none⟩ = false := (blk_facts hd).2.1 1; have k2_hd : wr.cell? ⟨w2.heap.size, 2, none⟩ = some (.int .i64 (d1)) := ((blk_facts hd).1 2).trans (by simp); have l2_hd : wr.frozen? ⟨w2.heap.size, 2, none⟩ = false := (blk_facts hd).2.1 2; have k3_hd : wr.cell? ⟨w2.heap.size, 3, none⟩ = some (.int .i64 (u0)) := ((blk_facts hd).1 3).trans (by simp); have l3_hd : wr.frozen? ⟨w2.heap.size, 3, none⟩ = false := (blk_facts hd).2.1 3; have k4_hd : wr.cell? ⟨w2.heap.size, 4, none⟩ = some (.int .i64 (u1)) := ((blk_facts hd).1 4).trans (by simp); have l4_hd : wr.frozen? ⟨w2.heap.size, 4, none⟩ = false := (blk_facts hd).2.1 4
    have z_he : w2.heap.size + 1 < wr.heap.size := heap_lt he; have k0_he : wr.cell? ⟨w2.heap.size + 1, 0, none⟩ = some (.int .i64 (lat)) := ((blk_facts he).1 0).trans (by simp); have l0_he : wr.frozen? ⟨w2.heap.size + 1, 0, none⟩ = false := (blk_facts he).2.1 0; have k1_he : wr.cell? ⟨w2.heap.size + 1, 1, none⟩ = some (.int .i64 (d0)) := ((blk_facts he).1 1).trans (by simp); have l1_he : wr.frozen? ⟨w2.heap.size + 1, 1, none⟩ = false := (blk_facts he).2.1 1; have k2_he : wr.cell? ⟨w2.heap.size + 1, 2, none⟩ = some (.int .i64 (d1)) := ((blk_facts he).1 2).trans (by simp); have l2_he : wr.frozen? ⟨w2.heap.size + 1, 2, none⟩ = false := (blk_facts he).2.1 2; have k3_he : wr.cell? ⟨w2.heap.size + 1, 3, none⟩ = some (.int .i64 (v0)) := ((blk_facts he).1 3).trans (by simp); have l3_he : wr.frozen? ⟨w2.heap.size + 1, 3, none⟩ = false := (blk_facts he).2.1 3; have k4_he : wr.cell? ⟨w2.heap.size + 1, 4, none⟩ = some (.int .i64 (v1)) := ((blk_facts he).1 4).trans (by simp); have l4_he : wr.frozen? ⟨w2.heap.size + 1, 4, none⟩ = false := (blk_facts he).2.1 4
    have z_hr : w.heap.size < wr.heap.size := heap_lt hr; have k0_hr : wr.cell? ⟨w.heap.size, 0, none⟩ = some (.int .i64 (0)) := ((blk_facts hr).1 0).trans (by simp); have l0_hr : wr.frozen? ⟨w.heap.size, 0, none⟩ = false := (blk_facts hr).2.1 0; have k1_hr : wr.cell? ⟨w.heap.size, 1, none⟩ = some (.int .i64 (0)) := ((blk_facts hr).1 1).trans (by simp); have l1_hr : wr.frozen? ⟨w.heap.size, 1, none⟩ = false := (blk_facts hr).2.1 1
    have HD := Lib.hid hd; have HE := Lib.hid he; have HR := Lib.hid hr; have HB := Lib.hid b_wr; clear hd he hr b_wr
    by_cases ht : (i : Int) < 1440
    · go_wp2_with fail
      refine wp_region_bl2 6 (fun w' => w'.cell? ⟨w2.heap.size, 0, none⟩ = some (.int .i64 (lat)) ∧ w'.cell? ⟨w2.heap.size, 1, none⟩ = some (.int .i64 (d0)) ∧ w'.cell? ⟨w2.heap.size, 2, none⟩ = some (.int .i64 (d1)) ∧ w'.cell? ⟨w2.heap.size, 3, none⟩ = some (.int .i64 (u0)) ∧ w'.cell? ⟨w2.heap.size, 4, none⟩ = some (.int .i64 (u1)) ∧ w'.cell? ⟨w2.heap.size + 1, 0, none⟩ = some (.int .i64 (lat)) ∧ w'.cell? ⟨w2.heap.size + 1, 1, none⟩ = some (.int .i64 (d0)) ∧ w'.cell? ⟨w2.heap.size + 1, 2, none⟩ = some (.int .i64 (d1)) ∧ w'.cell? ⟨w2.heap.size + 1, 3, none⟩ = some (.int .i64 (v0)) ∧ w'.cell? ⟨w2.heap.size + 1, 4, none⟩ = some (.int .i64 (v1))) (by kernel_rfl) (by kernel_rfl) (by rfl) (fun w' hw' => ?_) (fun hS => ?_)
      focus exact ⟨(hw'.cell (p := ⟨w2.heap.size, 0, none⟩) (by first | omega | (simp; done) | (simp; omega))).trans (by go_simp), (hw'.cell (p := ⟨w2.heap.size, 1, none⟩) (by first | omega | (simp; done) | (simp; omega))).trans (by go_simp), (hw'.cell (p := ⟨w2.heap.size, 2, none⟩) (by first | omega | (simp; done) | (simp; omega))).trans (by go_simp), (hw'.cell (p := ⟨w2.heap.size, 3, none⟩) (by first | omega | (simp; done) | (simp; omega))).trans (by go_simp), (hw'.cell (p := ⟨w2.heap.size, 4, none⟩) (by first | omega | (simp; done) | (simp; omega))).trans (by go_simp), (hw'.cell (p := ⟨w2.heap.size + 1, 0, none⟩) (by first | omega | (simp; done) | (simp; omega))).trans (by go_simp), (hw'.cell (p := ⟨w2.heap.size + 1, 1, none⟩) (by first | omega | (simp; done) | (simp; omega))).trans (by go_simp), (hw'.cell (p := ⟨w2.heap.size + 1, 2, none⟩) (by first | omega | (simp; done) | (simp; omega))).trans (by go_simp), (hw'.cell (p := ⟨w2.heap.size + 1, 3, none⟩) (by first | omega | (simp; done) | (simp; omega))).trans (by go_simp), (hw'.cell (p := ⟨w2.heap.size + 1, 4, none⟩) (by first | omega | (simp; done) | (simp; omega))).trans (by go_simp)⟩
      have HS := Lib.hid hS; clear hS
      simp only [List.take_succ_cons, List.take_zero, List.drop_succ_cons, List.drop_zero]
      repeat (first | (refine wpBl_op ?_ ?_ (fun K hK => ?_); (focus rfl); (focus rfl); apply Exists.intro; refine ⟨fun w' hw' => ?_, ?_⟩; (focus (first | (go_simp; first | (go_at_call 60; with_reducible exact LI1.out i _ (by omega)) | (go_at_call 60; with_reducible exact LI2.out i _ (by omega))) | (obtain ⟨kr0, kr1, kr2, kr3, kr4, kr5, kr6, kr7, kr8, kr9⟩ := HS.out w' hw'; go_simp; rfl))); go_simp; refine hK _ ?_; clear hK K) | (refine wpBl_mk ?_ ?_ (fun K hK => ⟨fun g => .pointer (some ⟨g, 0, none⟩), ?_⟩); (focus rfl); (focus rfl); apply Exists.intro; refine ⟨fun w' => ?_, ?_⟩; (focus (go_simp; rfl)); go_simp; refine hK _ _ _ ?_; clear hK K) | (refine wpBl_no ?_ ?_ (fun K hK => ?_); (focus rfl); (focus rfl); go_simp; refine hK _ ?_; clear hK K))
      refine wpBl_end (fun w3 b_w3 => TailW_nil ?_)
      obtain ⟨c_w3, f_w3, z_w3⟩ := bfacts b_w3 (by first | (simp; rfl) | rfl)
      have y0_w3 : w.heap.size < w3.heap.size := (by omega)
      clear HS
      go_simp
      have hd2 := Lib.hid (heap_below (show wr.drew.heap[w2.heap.size]? = _ from HD.out) b_w3)
      have he2 := Lib.hid (heap_below (show wr.drew.heap[w2.heap.size + 1]? = _ from HE.out) b_w3)
      have hr2 := Lib.hid (heap_below (show wr.drew.heap[w.heap.size]? = _ from HR.out) b_w3)
      have hb2 := Lib.hid ((Below.drew HB.out).trans (b_w3.mono (show w.heap.size ≤ wr.heap.size by omega)))
      clear HD HE HR HB b_w3
      rcases FC1.out i with hf | hf | hf <;> rcases FC2.out i with hg | hg | hg
      all_goals
        obtain ⟨ts, tm⟩ := tw_step f g i _ _ rfl rfl
        simp [hf, hg] at ts tm
        have TS := Lib.hid ts; have TM := Lib.hid tm; clear ts tm
        go_wp2
        go_roundw
        case rel => exact ⟨i + 1, by omega, by simp, by rw [TS.out], by rw [TM.out], hd2.out, he2.out, hr2.out, hb2.out⟩
        case measure => simp [intOf]; omega
    · have hi' : i = N := by have := HN.out; omega
      have HI := Lib.hid hi'; clear hi'
      go_wp2
      exact bodyPost_ret (v := .tuple #[(.agg #[.int .i64 (twS f g N), .int .i64 (twM f g N)]), .int .i64 0]) (by rw [← HI.out]; simp [results, Try.results31, go_sem, *]) rfl ⟨rfl, HB.out.trans (by (repeat' (first | with_reducible exact Below.refl _ _ | with_reducible assumption | with_reducible refine Below.setCell ?_ ?_ _ | with_reducible refine Below.drew ?_ | with_reducible refine below_drewN ?_ _ | with_reducible refine Below.alloc ?_ ?_ _ | with_reducible refine below_step (by assumption) ?_ ?_ | omega | exact Below.size (by assumption) | (simp; done) | (simp; omega))))⟩

set_option maxHeartbeats 1000000 in
theorem sLCode_any (lat n m d : Int) (w : World) :
    Calls Try.prog 47 #[.int .i64 lat, (.agg #[.int .i64 (n), .int .i64 (m)]), .int .i64 d] w fun e w' => e = .returned (.int .i64 (if leB lat n m d then 0 else 2)) ∧ Below w.heap.size w w' := by
  have r := Lib.hid (show leB lat n m d = (moB lat n m && inB d 100 10000) from rfl)
  obtain ⟨c, hc⟩ : ∃ c : Int, c = (if leB lat n m d then 0 else 2) := ⟨_, rfl⟩
  rw [← hc]
  have HC := Lib.hid hc; clear hc
  cases p : moB lat n m
  · go_enter Try.func47, Try.ntmps47
    go_wp2_with (go_at_call 55; refine (sMoment_any _ _ _ _).mono ?_; rintro e w' ⟨rfl, rfl⟩)
    go_ret
    exact ⟨ret_int (by rw [HC.out, r.out, p]; rfl), by (repeat' (first | with_reducible exact Below.refl _ _ | with_reducible assumption | with_reducible refine Below.setCell ?_ ?_ _ | with_reducible refine Below.drew ?_ | with_reducible refine below_drewN ?_ _ | with_reducible refine Below.alloc ?_ ?_ _ | with_reducible refine below_step (by assumption) ?_ ?_ | omega | exact Below.size (by assumption) | (simp; done) | (simp; omega)))⟩
  · cases q : inB d 100 10000
    · go_enter Try.func47, Try.ntmps47
      go_wp2_with (first | (go_at_call 55; refine (sMoment_any _ _ _ _).mono ?_; rintro e w' ⟨rfl, rfl⟩) | (go_at_call 74; refine (sIn_any _ _ _ _).mono ?_; rintro e w' ⟨rfl, rfl⟩))
      go_ret
      exact ⟨ret_int (by rw [HC.out, r.out, p, q]; rfl), by (repeat' (first | with_reducible exact Below.refl _ _ | with_reducible assumption | with_reducible refine Below.setCell ?_ ?_ _ | with_reducible refine Below.drew ?_ | with_reducible refine below_drewN ?_ _ | with_reducible refine Below.alloc ?_ ?_ _ | with_reducible refine below_step (by assumption) ?_ ?_ | omega | exact Below.size (by assumption) | (simp; done) | (simp; omega)))⟩
    · go_enter Try.func47, Try.ntmps47
      go_wp2_with (first | (go_at_call 55; refine (sMoment_any _ _ _ _).mono ?_; rintro e w' ⟨rfl, rfl⟩) | (go_at_call 74; refine (sIn_any _ _ _ _).mono ?_; rintro e w' ⟨rfl, rfl⟩))
      go_ret
      exact ⟨ret_int (by rw [HC.out, r.out, p, q]; rfl), by (repeat' (first | with_reducible exact Below.refl _ _ | with_reducible assumption | with_reducible refine Below.setCell ?_ ?_ _ | with_reducible refine Below.drew ?_ | with_reducible refine below_drewN ?_ _ | with_reducible refine Below.alloc ?_ ?_ _ | with_reducible refine below_step (by assumption) ?_ ?_ | omega | exact Below.size (by assumption) | (simp; done) | (simp; omega)))⟩

set_option maxHeartbeats 1000000 in
theorem sLampError_no (lat n m d : Int) (w : World) (p : leB lat n m d = false) :
    Calls Try.prog 18 #[.int .i64 lat, (.agg #[.int .i64 (n), .int .i64 (m)]), .int .i64 d] w fun e w' => e = .returned (.tuple #[.int .i64 0, .int .i64 2]) ∧ Below w.heap.size w w' := by
  have co := fun w => sLCode_any lat n m d w
  simp only [p, Bool.false_eq_true, if_false] at co
  have CO := Lib.hid co; clear co
  go_enter Try.func18, Try.ntmps18
  go_wp2_with fail
  refine (CO.out _).mono ?_
  rintro _ w1 ⟨rfl, b_w1⟩
  obtain ⟨c_w1, f_w1, z_w1⟩ := bfacts b_w1 (by first | (simp; rfl) | rfl)
  have y0_w1 : w.heap.size < w1.heap.size := (by omega)
  have k0_0_w1 : w1.cell? ⟨w.heap.size, 0, none⟩ = some (.int .i64 (n)) := (by first | exact (c_w1 _ _ (by omega)).trans (by go_simp) | go_simp)
  have l0_0_w1 : w1.frozen? ⟨w.heap.size, 0, none⟩ = false := (by first | exact (f_w1 _ _ (by omega)).trans (by go_simp) | go_simp)
  have k0_1_w1 : w1.cell? ⟨w.heap.size, 1, none⟩ = some (.int .i64 (m)) := (by first | exact (c_w1 _ _ (by omega)).trans (by go_simp) | go_simp)
  have l0_1_w1 : w1.frozen? ⟨w.heap.size, 1, none⟩ = false := (by first | exact (f_w1 _ _ (by omega)).trans (by go_simp) | go_simp)
  clear c_w1 f_w1
  go_wp2
  exact bodyPost_ret (v := .tuple #[.int .i64 0, .int .i64 2]) (by simp [results, Try.results18, go_sem, *]) rfl ⟨rfl, by (repeat' (first | with_reducible exact Below.refl _ _ | with_reducible refine Below.setCell ?_ ?_ _ | with_reducible refine Below.drew ?_ | with_reducible refine below_drewN ?_ _ | with_reducible refine Below.alloc ?_ ?_ _ | with_reducible refine below_step b_w1 ?_ ?_ | omega | (simp; done) | (simp; omega)))⟩
set_option maxHeartbeats 2000000 in
theorem sLampError_yes (lat n m d : Int) (w : World) (p : leB lat n m d = true) :
    Calls Try.prog 18 #[.int .i64 lat, (.agg #[.int .i64 (n), .int .i64 (m)]), .int .i64 d] w fun e w' => e = .returned (.tuple #[.int .i64 (laM (suV lat (deI n).lo (deI n).hi m) d), .int .i64 0]) ∧ Below w.heap.size w w' := by
  obtain ⟨p1, p2⟩ : moB lat n m = true ∧ inB d 100 10000 = true := by unfold leB at p; simpa [Bool.and_eq_true] using p
  obtain ⟨l0, l1, n0, n1, m0, m1⟩ := moB_t p1
  have q2 := inB_iff.1 p2
  have dd := deI_bd n
  have co := fun w => sLCode_any lat n m d w
  simp only [p, if_true] at co
  have su := fun w => sSun_any lat (deI n).lo (deI n).hi m w l0 l1 (by omega) (by omega) (by omega) (by omega) m0 m1
  have vb := suV_bd lat (deI n).lo (deI n).hi m
  have hl : laM (suV lat (deI n).lo (deI n).hi m) d = ceM (mx3 ((suV lat (deI n).lo (deI n).hi m).x.hi - (suV lat (deI n).lo (deI n).hi m).x.lo) ((suV lat (deI n).lo (deI n).hi m).y.hi - (suV lat (deI n).lo (deI n).hi m).y.lo) ((suV lat (deI n).lo (deI n).hi m).z.hi - (suV lat (deI n).lo (deI n).hi m).z.lo) * d) 1000000 + 1 := rfl
  rw [hl]
  clear hl
  generalize suV lat (deI n).lo (deI n).hi m = v at su vb ⊢
  obtain ⟨b1, b2, b3, b4, b5, b6, b7, b8, b9⟩ := vb
  obtain ⟨x, hx⟩ : ∃ x, mx3 (v.x.hi - v.x.lo) (v.y.hi - v.y.lo) (v.z.hi - v.z.lo) = x := ⟨_, rfl⟩
  have x0 : 0 ≤ x ∧ x ≤ 6000000 := by rw [← hx]; unfold mx3; omega
  rw [hx]
  have xm := mul_bd x0.1 x0.2 (show 0 ≤ d by omega) q2.2 rfl
  obtain ⟨x1, x2⟩ := x0
  obtain ⟨x3, x4⟩ := xm
  have SU := Lib.hid su; have CO := Lib.hid co; clear su co p p1
  go_enter Try.func18, Try.ntmps18
  go_wp2_with fail
  refine (CO.out _).mono ?_
  rintro _ w1 ⟨rfl, b_w1⟩
  obtain ⟨c_w1, f_w1, z_w1⟩ := bfacts b_w1 (by first | (simp; rfl) | rfl)
  have y0_w1 : w.heap.size < w1.heap.size := (by omega)
  have k0_0_w1 : w1.cell? ⟨w.heap.size, 0, none⟩ = some (.int .i64 (n)) := (by first | exact (c_w1 _ _ (by omega)).trans (by go_simp) | go_simp)
  have l0_0_w1 : w1.frozen? ⟨w.heap.size, 0, none⟩ = false := (by first | exact (f_w1 _ _ (by omega)).trans (by go_simp) | go_simp)
  have k0_1_w1 : w1.cell? ⟨w.heap.size, 1, none⟩ = some (.int .i64 (m)) := (by first | exact (c_w1 _ _ (by omega)).trans (by go_simp) | go_simp)
  have l0_1_w1 : w1.frozen? ⟨w.heap.size, 1, none⟩ = false := (by first | exact (f_w1 _ _ (by omega)).trans (by go_simp) | go_simp)
  clear c_w1 f_w1
  go_wp2_with fail
  refine wp_region_bl2 8 (fun w' => w'.cell? ⟨w.heap.size, 0, none⟩ = some (.int .i64 (n)) ∧ w'.cell? ⟨w.heap.size, 1, none⟩ = some (.int .i64 (m))) (by kernel_rfl) (by kernel_rfl) (by rfl) (fun w' hw' => ?_) (fun hS => ?_)
  focus exact ⟨(hw'.cell (p := ⟨w.heap.size, 0, none⟩) (by first | omega | (simp; done) | (simp; omega))).trans (by go_simp), (hw'.cell (p := ⟨w.heap.size, 1, none⟩) (by first | omega | (simp; done) | (simp; omega))).trans (by go_simp)⟩
  have HS := Lib.hid hS; clear hS
  simp only [List.take_succ_cons, List.take_zero, List.drop_succ_cons, List.drop_zero]
  repeat (first | (refine wpBl_op ?_ ?_ (fun K hK => ?_); (focus rfl); (focus rfl); apply Exists.intro; refine ⟨fun w' hw' => ?_, ?_⟩; (focus (first | (go_simp; first | (go_at_call 44; exact sDeclination_any _ _ n0 n1) | (go_at_call 48; exact SU.out _)) | (obtain ⟨kr0, kr1⟩ := HS.out w' hw'; go_simp; rfl))); go_simp; refine hK _ ?_; clear hK K) | (refine wpBl_mk ?_ ?_ (fun K hK => ⟨fun g => .pointer (some ⟨g, 0, none⟩), ?_⟩); (focus rfl); (focus rfl); apply Exists.intro; refine ⟨fun w' => ?_, ?_⟩; (focus (go_simp; rfl)); go_simp; refine hK _ _ _ ?_; clear hK K) | (refine wpBl_no ?_ ?_ (fun K hK => ?_); (focus rfl); (focus rfl); go_simp; refine hK _ ?_; clear hK K))
  refine wpBl_end (fun w2 b_w2 => TailW_cons (fun g0_w2 h0_w2 k0_w2 n0_w2 => TailW_nil ?_))
  obtain ⟨c_w2, f_w2, z_w2⟩ := bfacts b_w2 (by first | (simp; rfl) | rfl)
  obtain ⟨cg0_w2, fg0_w2, zg0_w2⟩ := blk_facts k0_w2
  (try simp at h0_w2)
  (try simp at n0_w2)
  clear k0_w2
  have y0_w2 : g0_w2 < w2.heap.size := (by omega)
  have k0_0_w2 : w2.cell? ⟨g0_w2, 0, none⟩ = some (.int .i64 (0)) := (by first | exact (c_w2 _ _ (by omega)).trans (by go_simp) | go_simp)
  have l0_0_w2 : w2.frozen? ⟨g0_w2, 0, none⟩ = false := (by first | exact (f_w2 _ _ (by omega)).trans (by go_simp) | go_simp)
  have k0_1_w2 : w2.cell? ⟨g0_w2, 1, none⟩ = some (.int .i64 (0)) := (by first | exact (c_w2 _ _ (by omega)).trans (by go_simp) | go_simp)
  have l0_1_w2 : w2.frozen? ⟨g0_w2, 1, none⟩ = false := (by first | exact (f_w2 _ _ (by omega)).trans (by go_simp) | go_simp)
  have k0_2_w2 : w2.cell? ⟨g0_w2, 2, none⟩ = some (.int .i64 (0)) := (by first | exact (c_w2 _ _ (by omega)).trans (by go_simp) | go_simp)
  have l0_2_w2 : w2.frozen? ⟨g0_w2, 2, none⟩ = false := (by first | exact (f_w2 _ _ (by omega)).trans (by go_simp) | go_simp)
  have k0_3_w2 : w2.cell? ⟨g0_w2, 3, none⟩ = some (.int .i64 (0)) := (by first | exact (c_w2 _ _ (by omega)).trans (by go_simp) | go_simp)
  have l0_3_w2 : w2.frozen? ⟨g0_w2, 3, none⟩ = false := (by first | exact (f_w2 _ _ (by omega)).trans (by go_simp) | go_simp)
  have k0_4_w2 : w2.cell? ⟨g0_w2, 4, none⟩ = some (.int .i64 (0)) := (by first | exact (c_w2 _ _ (by omega)).trans (by go_simp) | go_simp)
  have l0_4_w2 : w2.frozen? ⟨g0_w2, 4, none⟩ = false := (by first | exact (f_w2 _ _ (by omega)).trans (by go_simp) | go_simp)
  have k0_5_w2 : w2.cell? ⟨g0_w2, 5, none⟩ = some (.int .i64 (0)) := (by first | exact (c_w2 _ _ (by omega)).trans (by go_simp) | go_simp)
  have l0_5_w2 : w2.frozen? ⟨g0_w2, 5, none⟩ = false := (by first | exact (f_w2 _ _ (by omega)).trans (by go_simp) | go_simp)
  clear c_w2 f_w2 cg0_w2 fg0_w2
  clear HS
  go_simp
  go_wp2_with (go_at_call 49; refine (sCeil_pos _ _ _ (by omega) (by omega) (by omega) (by omega)).mono ?_; rintro e w' ⟨rfl, rfl⟩)
  exact bodyPost_ret (v := .tuple #[.int .i64 (ceM (x * d) 1000000 + 1), .int .i64 0]) (by simp [results, Try.results18, go_sem, ceM, *]) rfl ⟨rfl, by (repeat' (first | with_reducible exact Below.refl _ _ | with_reducible refine Below.setCell ?_ ?_ _ | with_reducible refine Below.drew ?_ | with_reducible refine below_drewN ?_ _ | with_reducible refine Below.alloc ?_ ?_ _ | with_reducible refine below_step b_w2 ?_ ?_ | with_reducible refine below_step b_w1 ?_ ?_ | omega | (simp; done) | (simp; omega)))⟩


end Go.Proofs.Ytikmepppnechaaa
