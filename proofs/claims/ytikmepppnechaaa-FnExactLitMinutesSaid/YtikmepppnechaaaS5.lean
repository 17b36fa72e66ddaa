/- What the reference's functions on the light of the minutes of a day return. -/
import Derived.Test.YtikmepppnechaaaS4
namespace Go.Proofs.Ytikmepppnechaaa
set_option linter.unusedVariables false
set_option linter.unusedSimpArgs false
open Go.RowKit


set_option maxHeartbeats 400000 in
theorem sMoment_any (lat n m : Int) (w : World) :
    Calls Try.prog 55 #[.int .i64 lat, .int .i64 n, .int .i64 m] w fun e w' => e = .returned (.bool (moB lat n m)) ∧ w = w' := by
  have r := Lib.hid (show moB lat n m = (inB lat (-324000) 324000 && (dayB n && inB m 0 1439)) from rfl)
  cases p : inB lat (-324000) 324000
  · go_enter Try.func55, Try.ntmps55
    go_wp2_with (go_at_call 65; refine (sLatitude_any _ _).mono ?_; rintro e w' ⟨rfl, rfl⟩)
    go_ret
    exact ⟨ret_bool (by rw [r.out, p]; rfl), rfl⟩
  · cases q : dayB n
    · go_enter Try.func55, Try.ntmps55
      go_wp2_with (first | (go_at_call 65; refine (sLatitude_any _ _).mono ?_; rintro e w' ⟨rfl, rfl⟩) | (go_at_call 43; refine (sHas_any _ _).mono ?_; rintro e w' ⟨rfl, rfl⟩))
      go_ret
      exact ⟨ret_bool (by rw [r.out, p, q]; rfl), rfl⟩
    · go_enter Try.func55, Try.ntmps55
      go_wp2_with (first | (go_at_call 65; refine (sLatitude_any _ _).mono ?_; rintro e w' ⟨rfl, rfl⟩) | (go_at_call 43; refine (sHas_any _ _).mono ?_; rintro e w' ⟨rfl, rfl⟩) | (go_at_call 59; refine (sMinute_any _ _).mono ?_; rintro e w' ⟨rfl, rfl⟩))
      go_ret
      exact ⟨ret_bool (by rw [r.out, p, q]; rfl), rfl⟩

set_option maxHeartbeats 400000 in
theorem sSign_any (a b : Int) (w : World) :
    Calls Try.prog 56 #[(.agg #[.int .i64 (a), .int .i64 (b)])] w fun e w' => e = .returned (.int .i64 (sgI a b)) ∧ Below w.heap.size w w' := by
  rcases sgI_cases a b with ⟨h, e⟩ | ⟨h1, h2, e⟩ | ⟨h1, h2, e⟩
  all_goals
    have E := Lib.hid e
    clear e
    go_enter Try.func56, Try.ntmps56
    go_wp2
    go_ret
    exact ⟨ret_int E.out.symm, by (repeat' (first | with_reducible exact Below.refl _ _ | with_reducible assumption | with_reducible refine Below.setCell ?_ ?_ _ | with_reducible refine Below.drew ?_ | with_reducible refine below_drewN ?_ _ | with_reducible refine Below.alloc ?_ ?_ _ | with_reducible refine below_step (by assumption) ?_ ?_ | omega | exact Below.size (by assumption) | (simp; done) | (simp; omega)))⟩

set_option maxHeartbeats 400000 in
theorem sRa_any (lat n h : Int) (w : World) :
    Calls Try.prog 58 #[.int .i64 lat, .int .i64 n, .int .i64 h] w fun e w' => e = .returned (.bool (raB lat n h)) ∧ w = w' := by
  have r := Lib.hid (show raB lat n h = (inB lat (-324000) 324000 && (dayB n && inB h (-36000) 36000)) from rfl)
  cases p : inB lat (-324000) 324000
  · go_enter Try.func58, Try.ntmps58
    go_wp2_with (go_at_call 65; refine (sLatitude_any _ _).mono ?_; rintro e w' ⟨rfl, rfl⟩)
    go_ret
    exact ⟨ret_bool (by rw [r.out, p]; rfl), rfl⟩
  · cases q : dayB n
    · go_enter Try.func58, Try.ntmps58
      go_wp2_with (first | (go_at_call 65; refine (sLatitude_any _ _).mono ?_; rintro e w' ⟨rfl, rfl⟩) | (go_at_call 43; refine (sHas_any _ _).mono ?_; rintro e w' ⟨rfl, rfl⟩))
      go_ret
      exact ⟨ret_bool (by rw [r.out, p, q]; rfl), rfl⟩
    · go_enter Try.func58, Try.ntmps58
      go_wp2_with (first | (go_at_call 65; refine (sLatitude_any _ _).mono ?_; rintro e w' ⟨rfl, rfl⟩) | (go_at_call 43; refine (sHas_any _ _).mono ?_; rintro e w' ⟨rfl, rfl⟩) | (go_at_call 74; refine (sIn_any _ _ _ _).mono ?_; rintro e w' ⟨rfl, rfl⟩))
      go_ret
      exact ⟨ret_bool (by rw [r.out, p, q]; rfl), rfl⟩

set_option maxHeartbeats 1000000 in
theorem sMake_any (lat n h : Int) (w : World) (n0 : -1000000 ≤ n) (n1 : n ≤ 1000000) (h0 : -36000 ≤ h) (h1 : h ≤ 36000) :
    Calls Try.prog 61 #[.int .i64 lat, .int .i64 n, .int .i64 h] w fun e w' => e = .returned (.agg #[.int .i64 (lat), .int .i64 ((deI n).lo), .int .i64 ((deI n).hi), .int .i64 (sL h), .int .i64 (sH h)]) ∧ Below w.heap.size w w' := by
  go_enter Try.func61, Try.ntmps61
  go_wp2_with fail
  refine (sDeclination_any n _ n0 n1).mono ?_
  rintro _ w1 ⟨rfl, b_w1⟩
  obtain ⟨c_w1, f_w1, z_w1⟩ := bfacts b_w1 (by first | (simp; rfl) | rfl)
  have y0_w1 : w.heap.size < w1.heap.size := (by omega)
  have k0_0_w1 : w1.cell? ⟨w.heap.size, 0, none⟩ = some (.int .i64 (0)) := (by first | exact (c_w1 _ _ (by omega)).trans (by go_simp) | go_simp)
  have l0_0_w1 : w1.frozen? ⟨w.heap.size, 0, none⟩ = false := (by first | exact (f_w1 _ _ (by omega)).trans (by go_simp) | go_simp)
  have k0_1_w1 : w1.cell? ⟨w.heap.size, 1, none⟩ = some (.int .i64 (0)) := (by first | exact (c_w1 _ _ (by omega)).trans (by go_simp) | go_simp)
  have l0_1_w1 : w1.frozen? ⟨w.heap.size, 1, none⟩ = false := (by first | exact (f_w1 _ _ (by omega)).trans (by go_simp) | go_simp)
  have k0_2_w1 : w1.cell? ⟨w.heap.size, 2, none⟩ = some (.int .i64 (0)) := (by first | exact (c_w1 _ _ (by omega)).trans (by go_simp) | go_simp)
  have l0_2_w1 : w1.frozen? ⟨w.heap.size, 2, none⟩ = false := (by first | exact (f_w1 _ _ (by omega)).trans (by go_simp) | go_simp)
  have k0_3_w1 : w1.cell? ⟨w.heap.size, 3, none⟩ = some (.int .i64 (0)) := (by first | exact (c_w1 _ _ (by omega)).trans (by go_simp) | go_simp)
  have l0_3_w1 : w1.frozen? ⟨w.heap.size, 3, none⟩ = false := (by first | exact (f_w1 _ _ (by omega)).trans (by go_simp) | go_simp)
  have k0_4_w1 : w1.cell? ⟨w.heap.size, 4, none⟩ = some (.int .i64 (0)) := (by first | exact (c_w1 _ _ (by omega)).trans (by go_simp) | go_simp)
  have l0_4_w1 : w1.frozen? ⟨w.heap.size, 4, none⟩ = false := (by first | exact (f_w1 _ _ (by omega)).trans (by go_simp) | go_simp)
  clear c_w1 f_w1
  go_wp2_with fail
  refine (sSin_any h _ (by omega) (by omega)).mono ?_
  rintro _ w2 ⟨rfl, b_w2⟩
  obtain ⟨c_w2, f_w2, z_w2⟩ := bfacts b_w2 (by first | (simp; rfl) | rfl)
  have y0_w2 : w.heap.size < w2.heap.size := (by omega)
  have k0_0_w2 : w2.cell? ⟨w.heap.size, 0, none⟩ = some (.int .i64 (0)) := (by first | exact (c_w2 _ _ (by omega)).trans (by go_simp) | go_simp)
  have l0_0_w2 : w2.frozen? ⟨w.heap.size, 0, none⟩ = false := (by first | exact (f_w2 _ _ (by omega)).trans (by go_simp) | go_simp)
  have k0_1_w2 : w2.cell? ⟨w.heap.size, 1, none⟩ = some (.int .i64 (0)) := (by first | exact (c_w2 _ _ (by omega)).trans (by go_simp) | go_simp)
  have l0_1_w2 : w2.frozen? ⟨w.heap.size, 1, none⟩ = false := (by first | exact (f_w2 _ _ (by omega)).trans (by go_simp) | go_simp)
  have k0_2_w2 : w2.cell? ⟨w.heap.size, 2, none⟩ = some (.int .i64 (0)) := (by first | exact (c_w2 _ _ (by omega)).trans (by go_simp) | go_simp)
  have l0_2_w2 : w2.frozen? ⟨w.heap.size, 2, none⟩ = false := (by first | exact (f_w2 _ _ (by omega)).trans (by go_simp) | go_simp)
  have k0_3_w2 : w2.cell? ⟨w.heap.size, 3, none⟩ = some (.int .i64 (0)) := (by first | exact (c_w2 _ _ (by omega)).trans (by go_simp) | go_simp)
  have l0_3_w2 : w2.frozen? ⟨w.heap.size, 3, none⟩ = false := (by first | exact (f_w2 _ _ (by omega)).trans (by go_simp) | go_simp)
  have k0_4_w2 : w2.cell? ⟨w.heap.size, 4, none⟩ = some (.int .i64 (0)) := (by first | exact (c_w2 _ _ (by omega)).trans (by go_simp) | go_simp)
  have l0_4_w2 : w2.frozen? ⟨w.heap.size, 4, none⟩ = false := (by first | exact (f_w2 _ _ (by omega)).trans (by go_simp) | go_simp)
  clear c_w2 f_w2
  go_wp2
  exact bodyPost_ret (v := (.agg #[.int .i64 (lat), .int .i64 ((deI n).lo), .int .i64 ((deI n).hi), .int .i64 (sL h), .int .i64 (sH h)])) (by simp [results, Try.results61, go_sem, *]) rfl ⟨rfl, by (repeat' (first | with_reducible exact Below.refl _ _ | with_reducible refine Below.setCell ?_ ?_ _ | with_reducible refine Below.drew ?_ | with_reducible refine below_drewN ?_ _ | with_reducible refine Below.alloc ?_ ?_ _ | with_reducible refine below_step b_w2 ?_ ?_ | with_reducible refine below_step b_w1 ?_ ?_ | omega | (simp; done) | (simp; omega)))⟩

set_option maxHeartbeats 1000000 in
theorem sLight_any (lat lo hi el eh m : Int) (w : World) (l0 : -324000 ≤ lat) (l1 : lat ≤ 324000) (a0 : -1000000000000 ≤ lo) (a1 : lo ≤ 1000000000000) (b0 : -1000000000000 ≤ hi) (b1 : hi ≤ 1000000000000) (m0 : 0 ≤ m) (m1 : m ≤ 1439) :
    Calls Try.prog 60 #[(.agg #[.int .i64 (lat), .int .i64 (lo), .int .i64 (hi), .int .i64 (el), .int .i64 (eh)]), .int .i64 m] w fun e w' => e = .returned (.int .i64 (lgM (suV lat lo hi m).z.lo (suV lat lo hi m).z.hi el eh)) ∧ Below w.heap.size w w' := by
  have su := fun w => sSun_any lat lo hi m w l0 l1 a0 a1 b0 b1 m0 m1
  have cs := lgM_cases (suV lat lo hi m).z.lo (suV lat lo hi m).z.hi el eh
  generalize suV lat lo hi m = v at su cs ⊢
  have SU := Lib.hid su; clear su
  rcases cs with ⟨t, e⟩ | ⟨t1, t2, e⟩ | ⟨t1, t2, e⟩
  all_goals
    have E := Lib.hid e
    clear e
    go_enter Try.func60, Try.ntmps60
    go_wp2_with fail
    refine (SU.out _).mono ?_
    rintro _ w1 ⟨rfl, b_w1⟩
    obtain ⟨c_w1, f_w1, z_w1⟩ := bfacts b_w1 (by first | (simp; rfl) | rfl)
    have y0_w1 : w.heap.size < w1.heap.size := (by omega)
    have k0_0_w1 : w1.cell? ⟨w.heap.size, 0, none⟩ = some (.int .i64 (lat)) := (by first | exact (c_w1 _ _ (by omega)).trans (by go_simp) | go_simp)
    have l0_0_w1 : w1.frozen? ⟨w.heap.size, 0, none⟩ = false := (by first | exact (f_w1 _ _ (by omega)).trans (by go_simp) | go_simp)
    have k0_1_w1 : w1.cell? ⟨w.heap.size, 1, none⟩ = some (.int .i64 (lo)) := (by first | exact (c_w1 _ _ (by omega)).trans (by go_simp) | go_simp)
    have l0_1_w1 : w1.frozen? ⟨w.heap.size, 1, none⟩ = false := (by first | exact (f_w1 _ _ (by omega)).trans (by go_simp) | go_simp)
    have k0_2_w1 : w1.cell? ⟨w.heap.size, 2, none⟩ = some (.int .i64 (hi)) := (by first | exact (c_w1 _ _ (by omega)).trans (by go_simp) | go_simp)
    have l0_2_w1 : w1.frozen? ⟨w.heap.size, 2, none⟩ = false := (by first | exact (f_w1 _ _ (by omega)).trans (by go_simp) | go_simp)
    have k0_3_w1 : w1.cell? ⟨w.heap.size, 3, none⟩ = some (.int .i64 (el)) := (by first | exact (c_w1 _ _ (by omega)).trans (by go_simp) | go_simp)
    have l0_3_w1 : w1.frozen? ⟨w.heap.size, 3, none⟩ = false := (by first | exact (f_w1 _ _ (by omega)).trans (by go_simp) | go_simp)
    have k0_4_w1 : w1.cell? ⟨w.heap.size, 4, none⟩ = some (.int .i64 (eh)) := (by first | exact (c_w1 _ _ (by omega)).trans (by go_simp) | go_simp)
    have l0_4_w1 : w1.frozen? ⟨w.heap.size, 4, none⟩ = false := (by first | exact (f_w1 _ _ (by omega)).trans (by go_simp) | go_simp)
    clear c_w1 f_w1
    go_wp2
    go_ret
    exact ⟨ret_int E.out.symm, by (repeat' (first | with_reducible exact Below.refl _ _ | with_reducible refine Below.setCell ?_ ?_ _ | with_reducible refine Below.drew ?_ | with_reducible refine below_drewN ?_ _ | with_reducible refine Below.alloc ?_ ?_ _ | with_reducible refine below_step b_w1 ?_ ?_ | omega | (simp; done) | (simp; omega)))⟩

set_option maxHeartbeats 4000000 in
theorem sCountD_any (lat lo hi el eh : Int) (w : World) (l0 : -324000 ≤ lat) (l1 : lat ≤ 324000) (a0 : -1000000000000 ≤ lo) (a1 : lo ≤ 1000000000000) (b0 : -1000000000000 ≤ hi) (b1 : hi ≤ 1000000000000) :
    Calls Try.prog 72 #[(.agg #[.int .i64 (lat), .int .i64 (lo), .int .i64 (hi), .int .i64 (el), .int .i64 (eh)])] w fun e w' => e = .returned (.tuple #[.int .i64 (upN (dlM lat lo hi el eh) 1440), .int .i64 (dnN (dlM lat lo hi el eh) 1440)]) ∧ Below w.heap.size w w' := by
  have li : ∀ (i : Nat) (w : World), i < 1440 → Calls Try.prog 60 #[(.agg #[.int .i64 (lat), .int .i64 (lo), .int .i64 (hi), .int .i64 (el), .int .i64 (eh)]), .int .i64 i] w fun e w' => e = .returned (.int .i64 (dlM lat lo hi el eh i)) ∧ Below w.heap.size w w' :=
    fun i w h => sLight_any lat lo hi el eh i w l0 l1 a0 a1 b0 b1 (by omega) (by omega)
  have fc := dlM_cases lat lo hi el eh
  generalize dlM lat lo hi el eh = f at li fc ⊢
  have LI := Lib.hid li; have FC := Lib.hid fc; clear li fc
  obtain ⟨N, hN⟩ : ∃ N : Nat, N = 1440 := ⟨_, rfl⟩
  rw [← hN]
  have HN := Lib.hid hN; clear hN
  go_enter Try.func72, Try.ntmps72
  go_wp2_with fail
  go_loopw [4, 5, 6] (fun u d k wr => ∃ i : Nat, i ≤ 1440 ∧ k = .int .i64 i ∧ u = .int .i64 (upN f i) ∧ d = .int .i64 (dnN f i) ∧ Below (w.heap.size + 1) (w.alloc (.cells #[.int .i64 lat, .int .i64 lo, .int .i64 hi, .int .i64 el, .int .i64 eh] 60)) wr) (fun _ _ k _ => (1440 - intOf k).toNat)
  case atStart => exact ⟨0, by omega, rfl, rfl, rfl, Below.refl _ _⟩
  case round =>
    obtain ⟨i, hle, rfl, rfl, rfl, b_wr⟩ := hrel
    have hu := upN_bd f i
    have hd := dnN_bd f i
    have hz := b_wr.size
    simp at hz
    have c_wr : ∀ o, wr.cell? ⟨w.heap.size, o, none⟩ = (w.alloc (.cells #[.int .i64 lat, .int .i64 lo, .int .i64 hi, .int .i64 el, .int .i64 eh] 60)).cell? ⟨w.heap.size, o, none⟩ := fun o => b_wr.cell (p := ⟨w.heap.size, o, none⟩) (Nat.lt_succ_self _)
    have k0 : wr.cell? ⟨w.heap.size, 0, none⟩ = some (.int .i64 lat) := (c_wr 0).trans (by go_simp)
    have k1 : wr.cell? ⟨w.heap.size, 1, none⟩ = some (.int .i64 lo) := (c_wr 1).trans (by go_simp)
    have k2 : wr.cell? ⟨w.heap.size, 2, none⟩ = some (.int .i64 hi) := (c_wr 2).trans (by go_simp)
    have k3 : wr.cell? ⟨w.heap.size, 3, none⟩ = some (.int .i64 el) := (c_wr 3).trans (by go_simp)
    have k4 : wr.cell? ⟨w.heap.size, 4, none⟩ = some (.int .i64 eh) := (c_wr 4).trans (by go_simp)
    clear c_wr
    by_cases ht : (i : Int) < 1440
    · go_wp2_with fail
      refine (LI.out i _ (by omega)).mono ?_
      rintro _ w1 ⟨rfl, b_w1⟩
      have hB : Below (w.heap.size + 1) (w.alloc (.cells #[.int .i64 lat, .int .i64 lo, .int .i64 hi, .int .i64 el, .int .i64 eh] 60)) w1 := below_step b_w1 b_wr (by omega)
      have HB := Lib.hid hB; clear hB b_w1 b_wr
      rcases FC.out i with hf | hf | hf
      all_goals
        go_wp2
        go_roundw
        case rel => exact ⟨i + 1, by omega, by simp, by first | rw [upN_yes hf] | rw [upN_no (by omega)], by first | rw [dnN_yes hf] | rw [dnN_no (by omega)], HB.out⟩
        case measure => simp [intOf]; omega
    · have hi' : i = 1440 := by omega
      have HI := Lib.hid hi'
      clear k0 k1 k2 k3 k4 hz hi'
      go_wp2
      exact bodyPost_ret (v := .tuple #[.int .i64 (upN f N), .int .i64 (dnN f N)]) (by rw [show N = i from HN.out.trans HI.out.symm]; simp [results, Try.results72, go_sem, *]) rfl ⟨rfl, below_step (b := w.alloc (.cells #[.int .i64 lat, .int .i64 lo, .int .i64 hi, .int .i64 el, .int .i64 eh] 60)) (b_wr.mono (by simp)) (Below.alloc (Below.refl _ _) (Nat.le_refl _) _) (by simp)⟩

set_option maxHeartbeats 400000 in
theorem sPDeclination_no (n : Int) (w : World) (h : dayB n = false) :
    Calls Try.prog 15 #[.int .i64 n] w fun e w' => e = .returned (.tuple #[(.agg #[.int .i64 (0), .int .i64 (0)]), .int .i64 2]) ∧ Below w.heap.size w w' := by
  go_enter Try.func15, Try.ntmps15
  go_wp2_with (go_at_call 43; refine (sHas_any _ _).mono ?_; rintro e w' ⟨rfl, rfl⟩)
  exact bodyPost_ret (v := .tuple #[(.agg #[.int .i64 (0), .int .i64 (0)]), .int .i64 2]) (by simp [results, Try.results15, go_sem, *]) rfl ⟨rfl, by (repeat' (first | with_reducible exact Below.refl _ _ | with_reducible assumption | with_reducible refine Below.setCell ?_ ?_ _ | with_reducible refine Below.drew ?_ | with_reducible refine below_drewN ?_ _ | with_reducible refine Below.alloc ?_ ?_ _ | with_reducible refine below_step (by assumption) ?_ ?_ | omega | exact Below.size (by assumption) | (simp; done) | (simp; omega)))⟩
set_option maxHeartbeats 400000 in
theorem sPDeclination_yes (n : Int) (w : World) (h : dayB n = true) :
    Calls Try.prog 15 #[.int .i64 n] w fun e w' => e = .returned (.tuple #[(.agg #[.int .i64 ((deI n).lo), .int .i64 ((deI n).hi)]), .int .i64 0]) ∧ Below w.heap.size w w' := by
  obtain ⟨n0, n1⟩ := dayB_t h
  go_enter Try.func15, Try.ntmps15
  go_wp2_with (go_at_call 43; refine (sHas_any _ _).mono ?_; rintro e w' ⟨rfl, rfl⟩)
  refine (sDeclination_any n _ n0 n1).mono ?_
  rintro _ w2 ⟨rfl, b_w2⟩
  obtain ⟨c_w2, f_w2, z_w2⟩ := bfacts b_w2 (by first | (simp; rfl) | rfl)
  have y0_w2 : w.heap.size < w2.heap.size := (by omega)
  have k0_0_w2 : w2.cell? ⟨w.heap.size, 0, none⟩ = some (.int .i64 (0)) := (by first | exact (c_w2 _ _ (by omega)).trans (by go_simp) | go_simp)
  have l0_0_w2 : w2.frozen? ⟨w.heap.size, 0, none⟩ = false := (by first | exact (f_w2 _ _ (by omega)).trans (by go_simp) | go_simp)
  have k0_1_w2 : w2.cell? ⟨w.heap.size, 1, none⟩ = some (.int .i64 (0)) := (by first | exact (c_w2 _ _ (by omega)).trans (by go_simp) | go_simp)
  have l0_1_w2 : w2.frozen? ⟨w.heap.size, 1, none⟩ = false := (by first | exact (f_w2 _ _ (by omega)).trans (by go_simp) | go_simp)
  clear c_w2 f_w2
  go_wp2
  exact bodyPost_ret (v := .tuple #[(.agg #[.int .i64 ((deI n).lo), .int .i64 ((deI n).hi)]), .int .i64 0]) (by simp [results, Try.results15, go_sem, *]) rfl ⟨rfl, by (repeat' (first | with_reducible exact Below.refl _ _ | with_reducible refine Below.setCell ?_ ?_ _ | with_reducible refine Below.drew ?_ | with_reducible refine below_drewN ?_ _ | with_reducible refine Below.alloc ?_ ?_ _ | with_reducible refine below_step b_w2 ?_ ?_ | omega | (simp; done) | (simp; omega)))⟩

set_option maxHeartbeats 1000000 in
theorem sSunOfDay_no (lat n m : Int) (w : World) (h : moB lat n m = false) :
    Calls Try.prog 23 #[.int .i64 lat, .int .i64 n, .int .i64 m] w fun e w' => e = .returned (.tuple #[(.agg #[.int .i64 (0), .int .i64 (0), .int .i64 (0), .int .i64 (0), .int .i64 (0), .int .i64 (0)]), .int .i64 2]) ∧ Below w.heap.size w w' := by
  go_enter Try.func23, Try.ntmps23
  go_wp2_with (go_at_call 55; refine (sMoment_any _ _ _ _).mono ?_; rintro e w' ⟨rfl, rfl⟩)
  exact bodyPost_ret (v := .tuple #[(.agg #[.int .i64 (0), .int .i64 (0), .int .i64 (0), .int .i64 (0), .int .i64 (0), .int .i64 (0)]), .int .i64 2]) (by simp [results, Try.results23, go_sem, *]) rfl ⟨rfl, by (repeat' (first | with_reducible exact Below.refl _ _ | with_reducible assumption | with_reducible refine Below.setCell ?_ ?_ _ | with_reducible refine Below.drew ?_ | with_reducible refine below_drewN ?_ _ | with_reducible refine Below.alloc ?_ ?_ _ | with_reducible refine below_step (by assumption) ?_ ?_ | omega | exact Below.size (by assumption) | (simp; done) | (simp; omega)))⟩
set_option maxHeartbeats 1000000 in
theorem sSunOfDay_yes (lat n m : Int) (w : World) (h : moB lat n m = true) :
    Calls Try.prog 23 #[.int .i64 lat, .int .i64 n, .int .i64 m] w fun e w' => e = .returned (.tuple #[(.agg #[.int .i64 ((suV lat (deI n).lo (deI n).hi m).x.lo), .int .i64 ((suV lat (deI n).lo (deI n).hi m).x.hi), .int .i64 ((suV lat (deI n).lo (deI n).hi m).y.lo), .int .i64 ((suV lat (deI n).lo (deI n).hi m).y.hi), .int .i64 ((suV lat (deI n).lo (deI n).hi m).z.lo), .int .i64 ((suV lat (deI n).lo (deI n).hi m).z.hi)]), .int .i64 0]) ∧ Below w.heap.size w w' := by
  obtain ⟨l0, l1, n0, n1, m0, m1⟩ := moB_t h
  have dd := deI_bd n
  have su := fun w => sSun_any lat (deI n).lo (deI n).hi m w l0 l1 (by omega) (by omega) (by omega) (by omega) m0 m1
  generalize suV lat (deI n).lo (deI n).hi m = v at su ⊢
  have SU := Lib.hid su; clear su
  go_enter Try.func23, Try.ntmps23
  go_wp2_with (go_at_call 55; refine (sMoment_any _ _ _ _).mono ?_; rintro e w' ⟨rfl, rfl⟩)
  refine (sDeclination_any n _ n0 n1).mono ?_
  rintro _ w2 ⟨rfl, b_w2⟩
  obtain ⟨c_w2, f_w2, z_w2⟩ := bfacts b_w2 (by first | (simp; rfl) | rfl)
  have y0_w2 : w.heap.size < w2.heap.size := (by omega)
  have k0_0_w2 : w2.cell? ⟨w.heap.size, 0, none⟩ = some (.int .i64 (0)) := (by first | exact (c_w2 _ _ (by omega)).trans (by go_simp) | go_simp)
  have l0_0_w2 : w2.frozen? ⟨w.heap.size, 0, none⟩ = false := (by first | exact (f_w2 _ _ (by omega)).trans (by go_simp) | go_simp)
  have k0_1_w2 : w2.cell? ⟨w.heap.size, 1, none⟩ = some (.int .i64 (0)) := (by first | exact (c_w2 _ _ (by omega)).trans (by go_simp) | go_simp)
  have l0_1_w2 : w2.frozen? ⟨w.heap.size, 1, none⟩ = false := (by first | exact (f_w2 _ _ (by omega)).trans (by go_simp) | go_simp)
  have k0_2_w2 : w2.cell? ⟨w.heap.size, 2, none⟩ = some (.int .i64 (0)) := (by first | exact (c_w2 _ _ (by omega)).trans (by go_simp) | go_simp)
  have l0_2_w2 : w2.frozen? ⟨w.heap.size, 2, none⟩ = false := (by first | exact (f_w2 _ _ (by omega)).trans (by go_simp) | go_simp)
  have k0_3_w2 : w2.cell? ⟨w.heap.size, 3, none⟩ = some (.int .i64 (0)) := (by first | exact (c_w2 _ _ (by omega)).trans (by go_simp) | go_simp)
  have l0_3_w2 : w2.frozen? ⟨w.heap.size, 3, none⟩ = false := (by first | exact (f_w2 _ _ (by omega)).trans (by go_simp) | go_simp)
  have k0_4_w2 : w2.cell? ⟨w.heap.size, 4, none⟩ = some (.int .i64 (0)) := (by first | exact (c_w2 _ _ (by omega)).trans (by go_simp) | go_simp)
  have l0_4_w2 : w2.frozen? ⟨w.heap.size, 4, none⟩ = false := (by first | exact (f_w2 _ _ (by omega)).trans (by go_simp) | go_simp)
  have k0_5_w2 : w2.cell? ⟨w.heap.size, 5, none⟩ = some (.int .i64 (0)) := (by first | exact (c_w2 _ _ (by omega)).trans (by go_simp) | go_simp)
  have l0_5_w2 : w2.frozen? ⟨w.heap.size, 5, none⟩ = false := (by first | exact (f_w2 _ _ (by omega)).trans (by go_simp) | go_simp)
  clear c_w2 f_w2
  go_wp2_with fail
  refine (SU.out _).mono ?_
  rintro _ w3 ⟨rfl, b_w3⟩
  obtain ⟨c_w3, f_w3, z_w3⟩ := bfacts b_w3 (by first | (simp; rfl) | rfl)
  have y0_w3 : w.heap.size < w3.heap.size := (by omega)
  have k0_0_w3 : w3.cell? ⟨w.heap.size, 0, none⟩ = some (.int .i64 (0)) := (by first | exact (c_w3 _ _ (by omega)).trans (by go_simp) | go_simp)
  have l0_0_w3 : w3.frozen? ⟨w.heap.size, 0, none⟩ = false := (by first | exact (f_w3 _ _ (by omega)).trans (by go_simp) | go_simp)
  have k0_1_w3 : w3.cell? ⟨w.heap.size, 1, none⟩ = some (.int .i64 (0)) := (by first | exact (c_w3 _ _ (by omega)).trans (by go_simp) | go_simp)
  have l0_1_w3 : w3.frozen? ⟨w.heap.size, 1, none⟩ = false := (by first | exact (f_w3 _ _ (by omega)).trans (by go_simp) | go_simp)
  have k0_2_w3 : w3.cell? ⟨w.heap.size, 2, none⟩ = some (.int .i64 (0)) := (by first | exact (c_w3 _ _ (by omega)).trans (by go_simp) | go_simp)
  have l0_2_w3 : w3.frozen? ⟨w.heap.size, 2, none⟩ = false := (by first | exact (f_w3 _ _ (by omega)).trans (by go_simp) | go_simp)
  have k0_3_w3 : w3.cell? ⟨w.heap.size, 3, none⟩ = some (.int .i64 (0)) := (by first | exact (c_w3 _ _ (by omega)).trans (by go_simp) | go_simp)
  have l0_3_w3 : w3.frozen? ⟨w.heap.size, 3, none⟩ = false := (by first | exact (f_w3 _ _ (by omega)).trans (by go_simp) | go_simp)
  have k0_4_w3 : w3.cell? ⟨w.heap.size, 4, none⟩ = some (.int .i64 (0)) := (by first | exact (c_w3 _ _ (by omega)).trans (by go_simp) | go_simp)
  have l0_4_w3 : w3.frozen? ⟨w.heap.size, 4, none⟩ = false := (by first | exact (f_w3 _ _ (by omega)).trans (by go_simp) | go_simp)
  have k0_5_w3 : w3.cell? ⟨w.heap.size, 5, none⟩ = some (.int .i64 (0)) := (by first | exact (c_w3 _ _ (by omega)).trans (by go_simp) | go_simp)
  have l0_5_w3 : w3.frozen? ⟨w.heap.size, 5, none⟩ = false := (by first | exact (f_w3 _ _ (by omega)).trans (by go_simp) | go_simp)
  clear c_w3 f_w3
  go_wp2
  exact bodyPost_ret (v := .tuple #[(.agg #[.int .i64 (v.x.lo), .int .i64 (v.x.hi), .int .i64 (v.y.lo), .int .i64 (v.y.hi), .int .i64 (v.z.lo), .int .i64 (v.z.hi)]), .int .i64 0]) (by simp [results, Try.results23, go_sem, *]) rfl ⟨rfl, by (repeat' (first | with_reducible exact Below.refl _ _ | with_reducible refine Below.setCell ?_ ?_ _ | with_reducible refine Below.drew ?_ | with_reducible refine below_drewN ?_ _ | with_reducible refine Below.alloc ?_ ?_ _ | with_reducible refine below_step b_w3 ?_ ?_ | with_reducible refine below_step b_w2 ?_ ?_ | omega | (simp; done) | (simp; omega)))⟩

set_option maxHeartbeats 1000000 in
theorem sIsUpAt_no (lat n m : Int) (w : World) (h : moB lat n m = false) :
    Calls Try.prog 21 #[.int .i64 lat, .int .i64 n, .int .i64 m] w fun e w' => e = .returned (.tuple #[.int .i64 0, .int .i64 2]) ∧ Below w.heap.size w w' := by
  go_enter Try.func21, Try.ntmps21
  go_wp2_with (go_at_call 55; refine (sMoment_any _ _ _ _).mono ?_; rintro e w' ⟨rfl, rfl⟩)
  exact bodyPost_ret (v := .tuple #[.int .i64 0, .int .i64 2]) (by simp [results, Try.results21, go_sem, *]) rfl ⟨rfl, by (repeat' (first | with_reducible exact Below.refl _ _ | with_reducible assumption | with_reducible refine Below.setCell ?_ ?_ _ | with_reducible refine Below.drew ?_ | with_reducible refine below_drewN ?_ _ | with_reducible refine Below.alloc ?_ ?_ _ | with_reducible refine below_step (by assumption) ?_ ?_ | omega | exact Below.size (by assumption) | (simp; done) | (simp; omega)))⟩
set_option maxHeartbeats 1000000 in
theorem sIsUpAt_yes (lat n m : Int) (w : World) (h : moB lat n m = true) :
    Calls Try.prog 21 #[.int .i64 lat, .int .i64 n, .int .i64 m] w fun e w' => e = .returned (.tuple #[.int .i64 (sgI (suV lat (deI n).lo (deI n).hi m).z.lo (suV lat (deI n).lo (deI n).hi m).z.hi), .int .i64 0]) ∧ Below w.heap.size w w' := by
  obtain ⟨l0, l1, n0, n1, m0, m1⟩ := moB_t h
  have dd := deI_bd n
  have su := fun w => sSun_any lat (deI n).lo (deI n).hi m w l0 l1 (by omega) (by omega) (by omega) (by omega) m0 m1
  generalize suV lat (deI n).lo (deI n).hi m = v at su ⊢
  have SU := Lib.hid su; clear su
  go_enter Try.func21, Try.ntmps21
  go_wp2_with (go_at_call 55; refine (sMoment_any _ _ _ _).mono ?_; rintro e w' ⟨rfl, rfl⟩)
  refine (sDeclination_any n _ n0 n1).mono ?_
  rintro _ w2 ⟨rfl, b_w2⟩
  obtain ⟨c_w2, f_w2, z_w2⟩ := bfacts b_w2 (by first | (simp; rfl) | rfl)
  go_wp2_with fail
  refine (SU.out _).mono ?_
  rintro _ w3 ⟨rfl, b_w3⟩
  obtain ⟨c_w3, f_w3, z_w3⟩ := bfacts b_w3 (by first | (simp; rfl) | rfl)
  go_wp2_with fail
  refine (sSign_any v.z.lo v.z.hi _).mono ?_
  rintro _ w4 ⟨rfl, b_w4⟩
  obtain ⟨c_w4, f_w4, z_w4⟩ := bfacts b_w4 (by first | (simp; rfl) | rfl)
  go_wp2
  exact bodyPost_ret (v := .tuple #[.int .i64 (sgI v.z.lo v.z.hi), .int .i64 0]) (by simp [results, Try.results21, go_sem, *]) rfl ⟨rfl, by (repeat' (first | with_reducible exact Below.refl _ _ | with_reducible refine Below.setCell ?_ ?_ _ | with_reducible refine Below.drew ?_ | with_reducible refine below_drewN ?_ _ | with_reducible refine Below.alloc ?_ ?_ _ | with_reducible refine below_step b_w4 ?_ ?_ | with_reducible refine below_step b_w3 ?_ ?_ | with_reducible refine below_step b_w2 ?_ ?_ | omega | (simp; done) | (simp; omega)))⟩

set_option maxHeartbeats 1000000 in
theorem sLightAt_any (lat n m h : Int) (w : World) :
    Calls Try.prog 26 #[.int .i64 lat, .int .i64 n, .int .i64 m, .int .i64 h] w fun e w' => e = .returned (.tuple #[.int .i64 (if raB lat n h && inB m 0 1439 then ltM lat (deI n).lo (deI n).hi h m else 0), .int .i64 (if raB lat n h && inB m 0 1439 then 0 else 2)]) ∧ Below w.heap.size w w' := by
  cases p : raB lat n h
  · have hP : (false && inB m 0 1439) = true ↔ False := by simp
    simp only [hP, if_false]
    clear hP
    go_enter Try.func26, Try.ntmps26
    go_wp2_with (go_at_call 58; refine (sRa_any _ _ _ _).mono ?_; rintro e w' ⟨rfl, rfl⟩)
    exact bodyPost_ret (v := .tuple #[.int .i64 0, .int .i64 2]) (by simp [results, Try.results26, go_sem, *]) rfl ⟨rfl, by (repeat' (first | with_reducible exact Below.refl _ _ | with_reducible assumption | with_reducible refine Below.setCell ?_ ?_ _ | with_reducible refine Below.drew ?_ | with_reducible refine below_drewN ?_ _ | with_reducible refine Below.alloc ?_ ?_ _ | with_reducible refine below_step (by assumption) ?_ ?_ | omega | exact Below.size (by assumption) | (simp; done) | (simp; omega)))⟩
  · obtain ⟨l0, l1, n0, n1, h0, h1⟩ := raB_t p
    have dd := deI_bd n
    cases q : inB m 0 1439
    · have hP : (true && false) = true ↔ False := by simp
      simp only [hP, if_false]
      clear hP
      go_enter Try.func26, Try.ntmps26
      go_wp2_with (first | (go_at_call 58; refine (sRa_any _ _ _ _).mono ?_; rintro e w' ⟨rfl, rfl⟩) | (go_at_call 59; refine (sMinute_any _ _).mono ?_; rintro e w' ⟨rfl, rfl⟩))
      exact bodyPost_ret (v := .tuple #[.int .i64 0, .int .i64 2]) (by simp [results, Try.results26, go_sem, *]) rfl ⟨rfl, by (repeat' (first | with_reducible exact Below.refl _ _ | with_reducible assumption | with_reducible refine Below.setCell ?_ ?_ _ | with_reducible refine Below.drew ?_ | with_reducible refine below_drewN ?_ _ | with_reducible refine Below.alloc ?_ ?_ _ | with_reducible refine below_step (by assumption) ?_ ?_ | omega | exact Below.size (by assumption) | (simp; done) | (simp; omega)))⟩
    · have qq := inB_iff.1 q
      have hP : (true && true) = true ↔ True := by simp
      simp only [hP, if_true]
      clear hP
      have li := fun w => sLight_any lat (deI n).lo (deI n).hi (sL h) (sH h) m w l0 l1 (by omega) (by omega) (by omega) (by omega) (by omega) (by omega)
      have LI := Lib.hid li; clear li
      go_enter Try.func26, Try.ntmps26
      go_wp2_with (first | (go_at_call 58; refine (sRa_any _ _ _ _).mono ?_; rintro e w' ⟨rfl, rfl⟩) | (go_at_call 59; refine (sMinute_any _ _).mono ?_; rintro e w' ⟨rfl, rfl⟩))
      refine (sMake_any lat n h _ n0 n1 h0 h1).mono ?_
      rintro _ w2 ⟨rfl, b_w2⟩
      obtain ⟨c_w2, f_w2, z_w2⟩ := bfacts b_w2 (by first | (simp; rfl) | rfl)
      go_wp2_with fail
      refine (LI.out _).mono ?_
      rintro _ w3 ⟨rfl, b_w3⟩
      obtain ⟨c_w3, f_w3, z_w3⟩ := bfacts b_w3 (by first | (simp; rfl) | rfl)
      go_wp2
      exact bodyPost_ret (v := .tuple #[.int .i64 (ltM lat (deI n).lo (deI n).hi h m), .int .i64 0]) (by simp [results, Try.results26, go_sem, ltM, *]) rfl ⟨rfl, by (repeat' (first | with_reducible exact Below.refl _ _ | with_reducible refine Below.setCell ?_ ?_ _ | with_reducible refine Below.drew ?_ | with_reducible refine below_drewN ?_ _ | with_reducible refine Below.alloc ?_ ?_ _ | with_reducible refine below_step b_w3 ?_ ?_ | with_reducible refine below_step b_w2 ?_ ?_ | omega | (simp; done) | (simp; omega)))⟩


end Go.Proofs.Ytikmepppnechaaa
