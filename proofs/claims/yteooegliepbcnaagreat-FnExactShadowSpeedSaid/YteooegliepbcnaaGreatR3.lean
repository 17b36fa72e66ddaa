/- What the program's functions on dials return: the shadow at a minute. -/
import Derived.Test.YteooegliepbcnaaGreatR2
import Derived.Test.YteooegliepbcnaaGreatMath5
namespace Go.Proofs.YteooegliepbcnaaGreat
set_option linter.unusedVariables false
set_option linter.unusedSimpArgs false
set_option maxRecDepth 10000
open Go.RowKit


set_option maxHeartbeats 1000000 in
theorem IsDial_any (lat az sl h : Int) (w : World) :
    Calls Tryz.prog 101 #[(.agg #[.int .i64 (lat), .int .i64 (az), .int .i64 (sl), .int .i64 (h)])] w fun e w' => e = .returned (.bool (dlB lat az sl h)) ∧ Below w.heap.size w w' := by
  have r := Lib.hid (show dlB lat az sl h = (inB lat (-324000) 324000 && (waB az sl && heB h)) from rfl)
  cases p : inB lat (-324000) 324000
  · go_enter Tryz.func101, Tryz.ntmps101
    go_wp2_with (go_at_call 141; refine (isLatitude_any _ _).mono ?_; rintro e w' ⟨rfl, rfl⟩)
    go_ret
    exact ⟨ret_bool (by rw [r.out, p]; rfl), by (repeat' (first | with_reducible exact Below.refl _ _ | with_reducible assumption | with_reducible refine Below.setCell ?_ ?_ _ | with_reducible refine Below.drew ?_ | with_reducible refine below_drewN ?_ _ | with_reducible refine Below.alloc ?_ ?_ _ | with_reducible refine below_step (by assumption) ?_ ?_ | omega | exact Below.size (by assumption) | (simp; done) | (simp; omega)))⟩
  · cases q : waB az sl
    · go_enter Tryz.func101, Tryz.ntmps101
      go_wp2_with (go_at_call 141; refine (isLatitude_any _ _).mono ?_; rintro e w' ⟨rfl, rfl⟩)
      refine (IsWall_any az sl _).mono ?_
      rintro _ w1 ⟨rfl, b_w1⟩
      obtain ⟨c_w1, f_w1, z_w1⟩ := bfacts b_w1 (by first | (simp; rfl) | rfl)
      have y0_w1 : w.heap.size < w1.heap.size := (by omega)
      have k0_0_w1 : w1.cell? ⟨w.heap.size, 0, none⟩ = some (.int .i64 (lat)) := (by first | exact (c_w1 _ _ (by omega)).trans (by go_simp) | go_simp)
      have l0_0_w1 : w1.frozen? ⟨w.heap.size, 0, none⟩ = false := (by first | exact (f_w1 _ _ (by omega)).trans (by go_simp) | go_simp)
      have k0_1_w1 : w1.cell? ⟨w.heap.size, 1, none⟩ = some (.int .i64 (az)) := (by first | exact (c_w1 _ _ (by omega)).trans (by go_simp) | go_simp)
      have l0_1_w1 : w1.frozen? ⟨w.heap.size, 1, none⟩ = false := (by first | exact (f_w1 _ _ (by omega)).trans (by go_simp) | go_simp)
      have k0_2_w1 : w1.cell? ⟨w.heap.size, 2, none⟩ = some (.int .i64 (sl)) := (by first | exact (c_w1 _ _ (by omega)).trans (by go_simp) | go_simp)
      have l0_2_w1 : w1.frozen? ⟨w.heap.size, 2, none⟩ = false := (by first | exact (f_w1 _ _ (by omega)).trans (by go_simp) | go_simp)
      have k0_3_w1 : w1.cell? ⟨w.heap.size, 3, none⟩ = some (.int .i64 (h)) := (by first | exact (c_w1 _ _ (by omega)).trans (by go_simp) | go_simp)
      have l0_3_w1 : w1.frozen? ⟨w.heap.size, 3, none⟩ = false := (by first | exact (f_w1 _ _ (by omega)).trans (by go_simp) | go_simp)
      clear c_w1 f_w1
      go_wp2
      go_ret
      exact ⟨ret_bool (by rw [r.out, p, q]; rfl), by (repeat' (first | with_reducible exact Below.refl _ _ | with_reducible refine Below.setCell ?_ ?_ _ | with_reducible refine Below.drew ?_ | with_reducible refine below_drewN ?_ _ | with_reducible refine Below.alloc ?_ ?_ _ | with_reducible refine below_step b_w1 ?_ ?_ | omega | (simp; done) | (simp; omega)))⟩
    · go_enter Tryz.func101, Tryz.ntmps101
      go_wp2_with (go_at_call 141; refine (isLatitude_any _ _).mono ?_; rintro e w' ⟨rfl, rfl⟩)
      refine (IsWall_any az sl _).mono ?_
      rintro _ w1 ⟨rfl, b_w1⟩
      obtain ⟨c_w1, f_w1, z_w1⟩ := bfacts b_w1 (by first | (simp; rfl) | rfl)
      have y0_w1 : w.heap.size < w1.heap.size := (by omega)
      have k0_0_w1 : w1.cell? ⟨w.heap.size, 0, none⟩ = some (.int .i64 (lat)) := (by first | exact (c_w1 _ _ (by omega)).trans (by go_simp) | go_simp)
      have l0_0_w1 : w1.frozen? ⟨w.heap.size, 0, none⟩ = false := (by first | exact (f_w1 _ _ (by omega)).trans (by go_simp) | go_simp)
      have k0_1_w1 : w1.cell? ⟨w.heap.size, 1, none⟩ = some (.int .i64 (az)) := (by first | exact (c_w1 _ _ (by omega)).trans (by go_simp) | go_simp)
      have l0_1_w1 : w1.frozen? ⟨w.heap.size, 1, none⟩ = false := (by first | exact (f_w1 _ _ (by omega)).trans (by go_simp) | go_simp)
      have k0_2_w1 : w1.cell? ⟨w.heap.size, 2, none⟩ = some (.int .i64 (sl)) := (by first | exact (c_w1 _ _ (by omega)).trans (by go_simp) | go_simp)
      have l0_2_w1 : w1.frozen? ⟨w.heap.size, 2, none⟩ = false := (by first | exact (f_w1 _ _ (by omega)).trans (by go_simp) | go_simp)
      have k0_3_w1 : w1.cell? ⟨w.heap.size, 3, none⟩ = some (.int .i64 (h)) := (by first | exact (c_w1 _ _ (by omega)).trans (by go_simp) | go_simp)
      have l0_3_w1 : w1.frozen? ⟨w.heap.size, 3, none⟩ = false := (by first | exact (f_w1 _ _ (by omega)).trans (by go_simp) | go_simp)
      clear c_w1 f_w1
      go_wp2_with (go_at_call 143; refine (isHeight_any _ _).mono ?_; rintro e w' ⟨rfl, rfl⟩)
      go_ret
      exact ⟨ret_bool (by rw [r.out, p, q]; simp), by (repeat' (first | with_reducible exact Below.refl _ _ | with_reducible refine Below.setCell ?_ ?_ _ | with_reducible refine Below.drew ?_ | with_reducible refine below_drewN ?_ _ | with_reducible refine Below.alloc ?_ ?_ _ | with_reducible refine below_step b_w1 ?_ ?_ | omega | (simp; done) | (simp; omega)))⟩

set_option maxHeartbeats 1000000 in
theorem dialed_any (lat az sl h : Int) (b : Bool) (w : World) :
    Calls Tryz.prog 59 #[(.agg #[.int .i64 (lat), .int .i64 (az), .int .i64 (sl), .int .i64 (h)]), .bool b] w fun e w' => e = .returned (.int .i64 (dcM (dlB lat az sl h) b)) ∧ Below w.heap.size w w' := by
  have di := fun w => IsDial_any lat az sl h w
  generalize dlB lat az sl h = d at di ⊢
  have DI := Lib.hid di; clear di
  cases d
  · go_enter Tryz.func59, Tryz.ntmps59
    go_wp2_with fail
    refine (DI.out _).mono ?_
    rintro _ w1 ⟨rfl, b_w1⟩
    obtain ⟨c_w1, f_w1, z_w1⟩ := bfacts b_w1 (by first | (simp; rfl) | rfl)
    have y0_w1 : w.heap.size < w1.heap.size := (by omega)
    have k0_0_w1 : w1.cell? ⟨w.heap.size, 0, none⟩ = some (.int .i64 (lat)) := (by first | exact (c_w1 _ _ (by omega)).trans (by go_simp) | go_simp)
    have l0_0_w1 : w1.frozen? ⟨w.heap.size, 0, none⟩ = false := (by first | exact (f_w1 _ _ (by omega)).trans (by go_simp) | go_simp)
    have k0_1_w1 : w1.cell? ⟨w.heap.size, 1, none⟩ = some (.int .i64 (az)) := (by first | exact (c_w1 _ _ (by omega)).trans (by go_simp) | go_simp)
    have l0_1_w1 : w1.frozen? ⟨w.heap.size, 1, none⟩ = false := (by first | exact (f_w1 _ _ (by omega)).trans (by go_simp) | go_simp)
    have k0_2_w1 : w1.cell? ⟨w.heap.size, 2, none⟩ = some (.int .i64 (sl)) := (by first | exact (c_w1 _ _ (by omega)).trans (by go_simp) | go_simp)
    have l0_2_w1 : w1.frozen? ⟨w.heap.size, 2, none⟩ = false := (by first | exact (f_w1 _ _ (by omega)).trans (by go_simp) | go_simp)
    have k0_3_w1 : w1.cell? ⟨w.heap.size, 3, none⟩ = some (.int .i64 (h)) := (by first | exact (c_w1 _ _ (by omega)).trans (by go_simp) | go_simp)
    have l0_3_w1 : w1.frozen? ⟨w.heap.size, 3, none⟩ = false := (by first | exact (f_w1 _ _ (by omega)).trans (by go_simp) | go_simp)
    clear c_w1 f_w1
    go_wp2
    go_ret
    exact ⟨rfl, by (repeat' (first | with_reducible exact Below.refl _ _ | with_reducible refine Below.setCell ?_ ?_ _ | with_reducible refine Below.drew ?_ | with_reducible refine below_drewN ?_ _ | with_reducible refine Below.alloc ?_ ?_ _ | with_reducible refine below_step b_w1 ?_ ?_ | omega | (simp; done) | (simp; omega)))⟩
  · cases b
    · go_enter Tryz.func59, Tryz.ntmps59
      go_wp2_with fail
      refine (DI.out _).mono ?_
      rintro _ w1 ⟨rfl, b_w1⟩
      obtain ⟨c_w1, f_w1, z_w1⟩ := bfacts b_w1 (by first | (simp; rfl) | rfl)
      have y0_w1 : w.heap.size < w1.heap.size := (by omega)
      have k0_0_w1 : w1.cell? ⟨w.heap.size, 0, none⟩ = some (.int .i64 (lat)) := (by first | exact (c_w1 _ _ (by omega)).trans (by go_simp) | go_simp)
      have l0_0_w1 : w1.frozen? ⟨w.heap.size, 0, none⟩ = false := (by first | exact (f_w1 _ _ (by omega)).trans (by go_simp) | go_simp)
      have k0_1_w1 : w1.cell? ⟨w.heap.size, 1, none⟩ = some (.int .i64 (az)) := (by first | exact (c_w1 _ _ (by omega)).trans (by go_simp) | go_simp)
      have l0_1_w1 : w1.frozen? ⟨w.heap.size, 1, none⟩ = false := (by first | exact (f_w1 _ _ (by omega)).trans (by go_simp) | go_simp)
      have k0_2_w1 : w1.cell? ⟨w.heap.size, 2, none⟩ = some (.int .i64 (sl)) := (by first | exact (c_w1 _ _ (by omega)).trans (by go_simp) | go_simp)
      have l0_2_w1 : w1.frozen? ⟨w.heap.size, 2, none⟩ = false := (by first | exact (f_w1 _ _ (by omega)).trans (by go_simp) | go_simp)
      have k0_3_w1 : w1.cell? ⟨w.heap.size, 3, none⟩ = some (.int .i64 (h)) := (by first | exact (c_w1 _ _ (by omega)).trans (by go_simp) | go_simp)
      have l0_3_w1 : w1.frozen? ⟨w.heap.size, 3, none⟩ = false := (by first | exact (f_w1 _ _ (by omega)).trans (by go_simp) | go_simp)
      clear c_w1 f_w1
      go_wp2
      go_ret
      exact ⟨rfl, by (repeat' (first | with_reducible exact Below.refl _ _ | with_reducible refine Below.setCell ?_ ?_ _ | with_reducible refine Below.drew ?_ | with_reducible refine below_drewN ?_ _ | with_reducible refine Below.alloc ?_ ?_ _ | with_reducible refine below_step b_w1 ?_ ?_ | omega | (simp; done) | (simp; omega)))⟩
    · go_enter Tryz.func59, Tryz.ntmps59
      go_wp2_with fail
      refine (DI.out _).mono ?_
      rintro _ w1 ⟨rfl, b_w1⟩
      obtain ⟨c_w1, f_w1, z_w1⟩ := bfacts b_w1 (by first | (simp; rfl) | rfl)
      have y0_w1 : w.heap.size < w1.heap.size := (by omega)
      have k0_0_w1 : w1.cell? ⟨w.heap.size, 0, none⟩ = some (.int .i64 (lat)) := (by first | exact (c_w1 _ _ (by omega)).trans (by go_simp) | go_simp)
      have l0_0_w1 : w1.frozen? ⟨w.heap.size, 0, none⟩ = false := (by first | exact (f_w1 _ _ (by omega)).trans (by go_simp) | go_simp)
      have k0_1_w1 : w1.cell? ⟨w.heap.size, 1, none⟩ = some (.int .i64 (az)) := (by first | exact (c_w1 _ _ (by omega)).trans (by go_simp) | go_simp)
      have l0_1_w1 : w1.frozen? ⟨w.heap.size, 1, none⟩ = false := (by first | exact (f_w1 _ _ (by omega)).trans (by go_simp) | go_simp)
      have k0_2_w1 : w1.cell? ⟨w.heap.size, 2, none⟩ = some (.int .i64 (sl)) := (by first | exact (c_w1 _ _ (by omega)).trans (by go_simp) | go_simp)
      have l0_2_w1 : w1.frozen? ⟨w.heap.size, 2, none⟩ = false := (by first | exact (f_w1 _ _ (by omega)).trans (by go_simp) | go_simp)
      have k0_3_w1 : w1.cell? ⟨w.heap.size, 3, none⟩ = some (.int .i64 (h)) := (by first | exact (c_w1 _ _ (by omega)).trans (by go_simp) | go_simp)
      have l0_3_w1 : w1.frozen? ⟨w.heap.size, 3, none⟩ = false := (by first | exact (f_w1 _ _ (by omega)).trans (by go_simp) | go_simp)
      clear c_w1 f_w1
      go_wp2
      go_ret
      exact ⟨rfl, by (repeat' (first | with_reducible exact Below.refl _ _ | with_reducible refine Below.setCell ?_ ?_ _ | with_reducible refine Below.drew ?_ | with_reducible refine below_drewN ?_ _ | with_reducible refine Below.alloc ?_ ?_ _ | with_reducible refine below_step b_w1 ?_ ?_ | omega | (simp; done) | (simp; omega)))⟩

set_option maxHeartbeats 4000000 in
theorem ShadowAt_err (lat az sl h n m c : Int) (w : World) (hc : c ≠ 0) (k : dcM (dlB lat az sl h) (dayB n && inB m 0 1439) = c) :
    Calls Tryz.prog 19 #[(.agg #[.int .i64 (lat), .int .i64 (az), .int .i64 (sl), .int .i64 (h)]), .int .i64 n, .int .i64 m] w fun e w' => e = .returned (.tuple #[(.agg #[.int .i64 (0), .int .i64 (0), .int .i64 (0), .int .i64 (0)]), .int .i64 c]) ∧ Below w.heap.size w w' := by
  have di := fun w => dialed_any lat az sl h (dayB n && inB m 0 1439) w
  rw [k] at di
  cases q : dayB n
  · rw [q] at di
    have DI := Lib.hid di; clear di k
    go_enter Tryz.func19, Tryz.ntmps19
    go_wp2_with fail
    refine wp_region_bl2 8 (fun w' => w'.cell? ⟨w.heap.size, 0, none⟩ = some (.int .i64 (lat)) ∧ w'.cell? ⟨w.heap.size, 1, none⟩ = some (.int .i64 (az)) ∧ w'.cell? ⟨w.heap.size, 2, none⟩ = some (.int .i64 (sl)) ∧ w'.cell? ⟨w.heap.size, 3, none⟩ = some (.int .i64 (h))) (by kernel_rfl) (by kernel_rfl) (by rfl) (fun w' hw' => ?_) (fun hS => ?_)
    focus exact ⟨(hw'.cell (p := ⟨w.heap.size, 0, none⟩) (by first | omega | (simp; done) | (simp; omega))).trans (by go_simp), (hw'.cell (p := ⟨w.heap.size, 1, none⟩) (by first | omega | (simp; done) | (simp; omega))).trans (by go_simp), (hw'.cell (p := ⟨w.heap.size, 2, none⟩) (by first | omega | (simp; done) | (simp; omega))).trans (by go_simp), (hw'.cell (p := ⟨w.heap.size, 3, none⟩) (by first | omega | (simp; done) | (simp; omega))).trans (by go_simp)⟩
    have HS := Lib.hid hS; clear hS
    simp only [List.take_succ_cons, List.take_zero, List.drop_succ_cons, List.drop_zero]
    repeat (first | (refine wpBl_op ?_ ?_ (fun K hK => ?_); (focus rfl); (focus rfl); apply Exists.intro; refine ⟨fun w' hw' => ?_, ?_⟩; (focus (first | (go_simp; first | (go_at_call 60; exact isDayNumber_any _ _) | (go_at_call 66; exact calls_below (isMinute_any _ _)) | (go_at_call 59; exact DI.out _)) | (obtain ⟨kr0, kr1, kr2, kr3⟩ := HS.out w' hw'; go_simp; rfl))); go_simp; refine hK _ ?_; clear hK K) | (refine wpBl_mk ?_ ?_ (fun K hK => ⟨fun g => .pointer (some ⟨g, 0, none⟩), ?_⟩); (focus rfl); (focus rfl); apply Exists.intro; refine ⟨fun w' => ?_, ?_⟩; (focus (go_simp; rfl)); go_simp; refine hK _ _ _ ?_; clear hK K) | (refine wpBl_no ?_ ?_ (fun K hK => ?_); (focus rfl); (focus rfl); go_simp; refine hK _ ?_; clear hK K))
    refine wpBl_end (fun w1 b_w1 => TailW_nil ?_)
    obtain ⟨c_w1, f_w1, z_w1⟩ := bfacts b_w1 (by first | (simp; rfl) | rfl)
    have y0_w1 : w.heap.size + 1 < w1.heap.size := (by omega)
    have yb0_w1 : w.heap.size < w1.heap.size := (by omega)
    have k0_0_w1 : w1.cell? ⟨w.heap.size + 1, 0, none⟩ = some (.int .i64 (0)) := (by first | exact (c_w1 _ _ (by omega)).trans (by go_simp) | go_simp)
    have l0_0_w1 : w1.frozen? ⟨w.heap.size + 1, 0, none⟩ = false := (by first | exact (f_w1 _ _ (by omega)).trans (by go_simp) | go_simp)
    have k0_1_w1 : w1.cell? ⟨w.heap.size + 1, 1, none⟩ = some (.int .i64 (0)) := (by first | exact (c_w1 _ _ (by omega)).trans (by go_simp) | go_simp)
    have l0_1_w1 : w1.frozen? ⟨w.heap.size + 1, 1, none⟩ = false := (by first | exact (f_w1 _ _ (by omega)).trans (by go_simp) | go_simp)
    have k0_2_w1 : w1.cell? ⟨w.heap.size + 1, 2, none⟩ = some (.int .i64 (0)) := (by first | exact (c_w1 _ _ (by omega)).trans (by go_simp) | go_simp)
    have l0_2_w1 : w1.frozen? ⟨w.heap.size + 1, 2, none⟩ = false := (by first | exact (f_w1 _ _ (by omega)).trans (by go_simp) | go_simp)
    have k0_3_w1 : w1.cell? ⟨w.heap.size + 1, 3, none⟩ = some (.int .i64 (0)) := (by first | exact (c_w1 _ _ (by omega)).trans (by go_simp) | go_simp)
    have l0_3_w1 : w1.frozen? ⟨w.heap.size + 1, 3, none⟩ = false := (by first | exact (f_w1 _ _ (by omega)).trans (by go_simp) | go_simp)
    clear c_w1 f_w1
    clear HS
    go_simp
    go_wp2
    exact bodyPost_ret (v := .tuple #[(.agg #[.int .i64 (0), .int .i64 (0), .int .i64 (0), .int .i64 (0)]), .int .i64 c]) (by simp [results, Tryz.results19, go_sem, *]) rfl ⟨rfl, by (repeat' (first | with_reducible exact Below.refl _ _ | with_reducible refine Below.setCell ?_ ?_ _ | with_reducible refine Below.drew ?_ | with_reducible refine below_drewN ?_ _ | with_reducible refine Below.alloc ?_ ?_ _ | with_reducible refine below_step b_w1 ?_ ?_ | omega | (simp; done) | (simp; omega)))⟩
  · rw [q, Bool.true_and] at di
    have DI := Lib.hid di; clear di k
    go_enter Tryz.func19, Tryz.ntmps19
    go_wp2_with fail
    refine wp_region_bl2 8 (fun w' => w'.cell? ⟨w.heap.size, 0, none⟩ = some (.int .i64 (lat)) ∧ w'.cell? ⟨w.heap.size, 1, none⟩ = some (.int .i64 (az)) ∧ w'.cell? ⟨w.heap.size, 2, none⟩ = some (.int .i64 (sl)) ∧ w'.cell? ⟨w.heap.size, 3, none⟩ = some (.int .i64 (h))) (by kernel_rfl) (by kernel_rfl) (by rfl) (fun w' hw' => ?_) (fun hS => ?_)
    focus exact ⟨(hw'.cell (p := ⟨w.heap.size, 0, none⟩) (by first | omega | (simp; done) | (simp; omega))).trans (by go_simp), (hw'.cell (p := ⟨w.heap.size, 1, none⟩) (by first | omega | (simp; done) | (simp; omega))).trans (by go_simp), (hw'.cell (p := ⟨w.heap.size, 2, none⟩) (by first | omega | (simp; done) | (simp; omega))).trans (by go_simp), (hw'.cell (p := ⟨w.heap.size, 3, none⟩) (by first | omega | (simp; done) | (simp; omega))).trans (by go_simp)⟩
    have HS := Lib.hid hS; clear hS
    simp only [List.take_succ_cons, List.take_zero, List.drop_succ_cons, List.drop_zero]
    repeat (first | (refine wpBl_op ?_ ?_ (fun K hK => ?_); (focus rfl); (focus rfl); apply Exists.intro; refine ⟨fun w' hw' => ?_, ?_⟩; (focus (first | (go_simp; first | (go_at_call 60; exact isDayNumber_any _ _) | (go_at_call 66; exact calls_below (isMinute_any _ _)) | (go_at_call 59; exact DI.out _)) | (obtain ⟨kr0, kr1, kr2, kr3⟩ := HS.out w' hw'; go_simp; rfl))); go_simp; refine hK _ ?_; clear hK K) | (refine wpBl_mk ?_ ?_ (fun K hK => ⟨fun g => .pointer (some ⟨g, 0, none⟩), ?_⟩); (focus rfl); (focus rfl); apply Exists.intro; refine ⟨fun w' => ?_, ?_⟩; (focus (go_simp; rfl)); go_simp; refine hK _ _ _ ?_; clear hK K) | (refine wpBl_no ?_ ?_ (fun K hK => ?_); (focus rfl); (focus rfl); go_simp; refine hK _ ?_; clear hK K))
    refine wpBl_end (fun w1 b_w1 => TailW_nil ?_)
    obtain ⟨c_w1, f_w1, z_w1⟩ := bfacts b_w1 (by first | (simp; rfl) | rfl)
    have y0_w1 : w.heap.size + 1 < w1.heap.size := (by omega)
    have yb0_w1 : w.heap.size < w1.heap.size := (by omega)
    have k0_0_w1 : w1.cell? ⟨w.heap.size + 1, 0, none⟩ = some (.int .i64 (0)) := (by first | exact (c_w1 _ _ (by omega)).trans (by go_simp) | go_simp)
    have l0_0_w1 : w1.frozen? ⟨w.heap.size + 1, 0, none⟩ = false := (by first | exact (f_w1 _ _ (by omega)).trans (by go_simp) | go_simp)
    have k0_1_w1 : w1.cell? ⟨w.heap.size + 1, 1, none⟩ = some (.int .i64 (0)) := (by first | exact (c_w1 _ _ (by omega)).trans (by go_simp) | go_simp)
    have l0_1_w1 : w1.frozen? ⟨w.heap.size + 1, 1, none⟩ = false := (by first | exact (f_w1 _ _ (by omega)).trans (by go_simp) | go_simp)
    have k0_2_w1 : w1.cell? ⟨w.heap.size + 1, 2, none⟩ = some (.int .i64 (0)) := (by first | exact (c_w1 _ _ (by omega)).trans (by go_simp) | go_simp)
    have l0_2_w1 : w1.frozen? ⟨w.heap.size + 1, 2, none⟩ = false := (by first | exact (f_w1 _ _ (by omega)).trans (by go_simp) | go_simp)
    have k0_3_w1 : w1.cell? ⟨w.heap.size + 1, 3, none⟩ = some (.int .i64 (0)) := (by first | exact (c_w1 _ _ (by omega)).trans (by go_simp) | go_simp)
    have l0_3_w1 : w1.frozen? ⟨w.heap.size + 1, 3, none⟩ = false := (by first | exact (f_w1 _ _ (by omega)).trans (by go_simp) | go_simp)
    clear c_w1 f_w1
    clear HS
    go_simp
    go_wp2
    exact bodyPost_ret (v := .tuple #[(.agg #[.int .i64 (0), .int .i64 (0), .int .i64 (0), .int .i64 (0)]), .int .i64 c]) (by simp [results, Tryz.results19, go_sem, *]) rfl ⟨rfl, by (repeat' (first | with_reducible exact Below.refl _ _ | with_reducible refine Below.setCell ?_ ?_ _ | with_reducible refine Below.drew ?_ | with_reducible refine below_drewN ?_ _ | with_reducible refine Below.alloc ?_ ?_ _ | with_reducible refine below_step b_w1 ?_ ?_ | omega | (simp; done) | (simp; omega)))⟩
set_option maxHeartbeats 4000000 in
theorem ShadowAt_no (lat az sl h n m : Int) (w : World) (d : dlB lat az sl h = true) (q : dayB n = true) (r : inB m 0 1439 = true) (k : shB az sl h (suV lat (deI n).lo (deI n).hi m) = false) :
    Calls Tryz.prog 19 #[(.agg #[.int .i64 (lat), .int .i64 (az), .int .i64 (sl), .int .i64 (h)]), .int .i64 n, .int .i64 m] w fun e w' => e = .returned (.tuple #[(.agg #[.int .i64 (0), .int .i64 (0), .int .i64 (0), .int .i64 (0)]), .int .i64 4]) ∧ Below w.heap.size w w' := by
  obtain ⟨l0, l1, z0, z1, y0, y1, h0, h1⟩ := dlB_t d
  obtain ⟨n0, n1⟩ := dayB_t q
  have m0 := inB_iff.1 r
  have di := fun w => dialed_any lat az sl h true w
  rw [d] at di
  have sh := fun w => shadow_no lat az sl h n m w l0 l1 h0 h1 z0 z1 y0 y1 n0 n1 m0.1 m0.2 k
  have DI := Lib.hid di; have SH := Lib.hid sh; clear di sh k d
  go_enter Tryz.func19, Tryz.ntmps19
  go_wp2_with fail
  refine wp_region_bl2 8 (fun w' => w'.cell? ⟨w.heap.size, 0, none⟩ = some (.int .i64 (lat)) ∧ w'.cell? ⟨w.heap.size, 1, none⟩ = some (.int .i64 (az)) ∧ w'.cell? ⟨w.heap.size, 2, none⟩ = some (.int .i64 (sl)) ∧ w'.cell? ⟨w.heap.size, 3, none⟩ = some (.int .i64 (h))) (by kernel_rfl) (by kernel_rfl) (by rfl) (fun w' hw' => ?_) (fun hS => ?_)
  focus exact ⟨(hw'.cell (p := ⟨w.heap.size, 0, none⟩) (by first | omega | (simp; done) | (simp; omega))).trans (by go_simp), (hw'.cell (p := ⟨w.heap.size, 1, none⟩) (by first | omega | (simp; done) | (simp; omega))).trans (by go_simp), (hw'.cell (p := ⟨w.heap.size, 2, none⟩) (by first | omega | (simp; done) | (simp; omega))).trans (by go_simp), (hw'.cell (p := ⟨w.heap.size, 3, none⟩) (by first | omega | (simp; done) | (simp; omega))).trans (by go_simp)⟩
  have HS := Lib.hid hS; clear hS
  simp only [List.take_succ_cons, List.take_zero, List.drop_succ_cons, List.drop_zero]
  repeat (first | (refine wpBl_op ?_ ?_ (fun K hK => ?_); (focus rfl); (focus rfl); apply Exists.intro; refine ⟨fun w' hw' => ?_, ?_⟩; (focus (first | (go_simp; first | (go_at_call 60; exact isDayNumber_any _ _) | (go_at_call 66; exact calls_below (isMinute_any _ _)) | (go_at_call 59; exact DI.out _)) | (obtain ⟨kr0, kr1, kr2, kr3⟩ := HS.out w' hw'; go_simp; rfl))); go_simp; refine hK _ ?_; clear hK K) | (refine wpBl_mk ?_ ?_ (fun K hK => ⟨fun g => .pointer (some ⟨g, 0, none⟩), ?_⟩); (focus rfl); (focus rfl); apply Exists.intro; refine ⟨fun w' => ?_, ?_⟩; (focus (go_simp; rfl)); go_simp; refine hK _ _ _ ?_; clear hK K) | (refine wpBl_no ?_ ?_ (fun K hK => ?_); (focus rfl); (focus rfl); go_simp; refine hK _ ?_; clear hK K))
  refine wpBl_end (fun w1 b_w1 => TailW_nil ?_)
  obtain ⟨c_w1, f_w1, z_w1⟩ := bfacts b_w1 (by first | (simp; rfl) | rfl)
  have y0_w1 : w.heap.size < w1.heap.size := (by omega)
  have y1_w1 : w.heap.size + 1 < w1.heap.size := (by omega)
  have k0_0_w1 : w1.cell? ⟨w.heap.size, 0, none⟩ = some (.int .i64 (lat)) := (by first | exact (c_w1 _ _ (by omega)).trans (by go_simp) | go_simp)
  have l0_0_w1 : w1.frozen? ⟨w.heap.size, 0, none⟩ = false := (by first | exact (f_w1 _ _ (by omega)).trans (by go_simp) | go_simp)
  have k0_1_w1 : w1.cell? ⟨w.heap.size, 1, none⟩ = some (.int .i64 (az)) := (by first | exact (c_w1 _ _ (by omega)).trans (by go_simp) | go_simp)
  have l0_1_w1 : w1.frozen? ⟨w.heap.size, 1, none⟩ = false := (by first | exact (f_w1 _ _ (by omega)).trans (by go_simp) | go_simp)
  have k0_2_w1 : w1.cell? ⟨w.heap.size, 2, none⟩ = some (.int .i64 (sl)) := (by first | exact (c_w1 _ _ (by omega)).trans (by go_simp) | go_simp)
  have l0_2_w1 : w1.frozen? ⟨w.heap.size, 2, none⟩ = false := (by first | exact (f_w1 _ _ (by omega)).trans (by go_simp) | go_simp)
  have k0_3_w1 : w1.cell? ⟨w.heap.size, 3, none⟩ = some (.int .i64 (h)) := (by first | exact (c_w1 _ _ (by omega)).trans (by go_simp) | go_simp)
  have l0_3_w1 : w1.frozen? ⟨w.heap.size, 3, none⟩ = false := (by first | exact (f_w1 _ _ (by omega)).trans (by go_simp) | go_simp)
  have k1_0_w1 : w1.cell? ⟨w.heap.size + 1, 0, none⟩ = some (.int .i64 (0)) := (by first | exact (c_w1 _ _ (by omega)).trans (by go_simp) | go_simp)
  have l1_0_w1 : w1.frozen? ⟨w.heap.size + 1, 0, none⟩ = false := (by first | exact (f_w1 _ _ (by omega)).trans (by go_simp) | go_simp)
  have k1_1_w1 : w1.cell? ⟨w.heap.size + 1, 1, none⟩ = some (.int .i64 (0)) := (by first | exact (c_w1 _ _ (by omega)).trans (by go_simp) | go_simp)
  have l1_1_w1 : w1.frozen? ⟨w.heap.size + 1, 1, none⟩ = false := (by first | exact (f_w1 _ _ (by omega)).trans (by go_simp) | go_simp)
  have k1_2_w1 : w1.cell? ⟨w.heap.size + 1, 2, none⟩ = some (.int .i64 (0)) := (by first | exact (c_w1 _ _ (by omega)).trans (by go_simp) | go_simp)
  have l1_2_w1 : w1.frozen? ⟨w.heap.size + 1, 2, none⟩ = false := (by first | exact (f_w1 _ _ (by omega)).trans (by go_simp) | go_simp)
  have k1_3_w1 : w1.cell? ⟨w.heap.size + 1, 3, none⟩ = some (.int .i64 (0)) := (by first | exact (c_w1 _ _ (by omega)).trans (by go_simp) | go_simp)
  have l1_3_w1 : w1.frozen? ⟨w.heap.size + 1, 3, none⟩ = false := (by first | exact (f_w1 _ _ (by omega)).trans (by go_simp) | go_simp)
  clear c_w1 f_w1
  clear HS
  go_simp
  go_wp2_with fail
  refine (SH.out _).mono ?_
  rintro _ w2 ⟨rfl, b_w2⟩
  obtain ⟨c_w2, f_w2, z_w2⟩ := bfacts b_w2 (by first | (simp; rfl) | rfl); have y0_w2 : w.heap.size < w2.heap.size := (by omega); have y1_w2 : w.heap.size + 1 < w2.heap.size := (by omega); have k0_0_w2 : w2.cell? ⟨w.heap.size, 0, none⟩ = some (.int .i64 (lat)) := (by first | exact (c_w2 _ _ (by omega)).trans (by go_simp) | go_simp); have l0_0_w2 : w2.frozen? ⟨w.heap.size, 0, none⟩ = false := (by first | exact (f_w2 _ _ (by omega)).trans (by go_simp) | go_simp); have k0_1_w2 : w2.cell? ⟨w.heap.size, 1, none⟩ = some (.int .i64 (az)) := (by first | exact (c_w2 _ _ (by omega)).trans (by go_simp) | go_simp); have l0_1_w2 : w2.frozen? ⟨w.heap.size, 1, none⟩ = false := (by first | exact (f_w2 _ _ (by omega)).trans (by go_simp) | go_simp); have k0_2_w2 : w2.cell? ⟨w.heap.size, 2, none⟩ = some (.int .i64 (sl)) := (by first | exact (c_w2 _ _ (by omega)).trans (by go_simp) | go_simp); have l0_2_w2 : w2.frozen? ⟨w.heap.size, 2, none⟩ = false := (by first | exact (f_w2 _ _ (by omega)).trans (by go_simp) | go_simp); have k0_3_w2 : w2.cell? ⟨w.heap.size, 3, none⟩ = some (.int .i64 (h)) := (by first | exact (c_w2 _ _ (by omega)).trans (by go_simp) | go_simp); have l0_3_w2 : w2.frozen? ⟨w.heap.size, 3, none⟩ = false := (by first | exact (f_w2 _ _ (by omega)).trans (by go_simp) | go_simp); have k1_0_w2 : w2.cell? ⟨w.heap.size + 1, 0, none⟩ = some (.int .i64 (0)) := (by first | exact (c_w2 _ _ (by omega)).trans (by go_simp) | go_simp); have l1_0_w2 : w2.frozen? ⟨w.heap.size + 1, 0, none⟩ = false := (by first | exact (f_w2 _ _ (by omega)).trans (by go_simp) | go_simp); have k1_1_w2 : w2.cell? ⟨w.heap.size + 1, 1, none⟩ = some (.int .i64 (0)) := (by first | exact (c_w2 _ _ (by omega)).trans (by go_simp) | go_simp); have l1_1_w2 : w2.frozen? ⟨w.heap.size + 1, 1, none⟩ = false := (by first | exact (f_w2 _ _ (by omega)).trans (by go_simp) | go_simp); have k1_2_w2 : w2.cell? ⟨w.heap.size + 1, 2, none⟩ = some (.int .i64 (0)) := (by first | exact (c_w2 _ _ (by omega)).trans (by go_simp) | go_simp); have l1_2_w2 : w2.frozen? ⟨w.heap.size + 1, 2, none⟩ = false := (by first | exact (f_w2 _ _ (by omega)).trans (by go_simp) | go_simp); have k1_3_w2 : w2.cell? ⟨w.heap.size + 1, 3, none⟩ = some (.int .i64 (0)) := (by first | exact (c_w2 _ _ (by omega)).trans (by go_simp) | go_simp); have l1_3_w2 : w2.frozen? ⟨w.heap.size + 1, 3, none⟩ = false := (by first | exact (f_w2 _ _ (by omega)).trans (by go_simp) | go_simp); clear c_w2 f_w2
  go_wp2
  exact bodyPost_ret (v := .tuple #[(.agg #[.int .i64 (0), .int .i64 (0), .int .i64 (0), .int .i64 (0)]), .int .i64 4]) (by simp [results, Tryz.results19, go_sem, *]) rfl ⟨rfl, by (repeat' (first | with_reducible exact Below.refl _ _ | with_reducible refine Below.setCell ?_ ?_ _ | with_reducible refine Below.drew ?_ | with_reducible refine below_drewN ?_ _ | with_reducible refine Below.alloc ?_ ?_ _ | with_reducible refine below_step b_w2 ?_ ?_ | with_reducible refine below_step b_w1 ?_ ?_ | omega | (simp; done) | (simp; omega)))⟩
set_option maxHeartbeats 4000000 in
theorem ShadowAt_yes (lat az sl h n m : Int) (w : World) (d : dlB lat az sl h = true) (q : dayB n = true) (r : inB m 0 1439 = true) (k : shB az sl h (suV lat (deI n).lo (deI n).hi m) = true) :
    Calls Tryz.prog 19 #[(.agg #[.int .i64 (lat), .int .i64 (az), .int .i64 (sl), .int .i64 (h)]), .int .i64 n, .int .i64 m] w fun e w' => e = .returned (.tuple #[(.agg #[.int .i64 ((spP h (paV az sl (suV lat (deI n).lo (deI n).hi m))).x.lo), .int .i64 ((spP h (paV az sl (suV lat (deI n).lo (deI n).hi m))).x.hi), .int .i64 ((spP h (paV az sl (suV lat (deI n).lo (deI n).hi m))).y.lo), .int .i64 ((spP h (paV az sl (suV lat (deI n).lo (deI n).hi m))).y.hi)]), .int .i64 0]) ∧ Below w.heap.size w w' := by
  obtain ⟨l0, l1, z0, z1, y0, y1, h0, h1⟩ := dlB_t d
  obtain ⟨n0, n1⟩ := dayB_t q
  have m0 := inB_iff.1 r
  have di := fun w => dialed_any lat az sl h true w
  rw [d] at di
  have sh := fun w => shadow_yes lat az sl h n m w l0 l1 h0 h1 z0 z1 y0 y1 n0 n1 m0.1 m0.2 k
  generalize spP h (paV az sl (suV lat (deI n).lo (deI n).hi m)) = v at sh ⊢
  have DI := Lib.hid di; have SH := Lib.hid sh; clear di sh k d
  go_enter Tryz.func19, Tryz.ntmps19
  go_wp2_with fail
  refine wp_region_bl2 8 (fun w' => w'.cell? ⟨w.heap.size, 0, none⟩ = some (.int .i64 (lat)) ∧ w'.cell? ⟨w.heap.size, 1, none⟩ = some (.int .i64 (az)) ∧ w'.cell? ⟨w.heap.size, 2, none⟩ = some (.int .i64 (sl)) ∧ w'.cell? ⟨w.heap.size, 3, none⟩ = some (.int .i64 (h))) (by kernel_rfl) (by kernel_rfl) (by rfl) (fun w' hw' => ?_) (fun hS => ?_)
  focus exact ⟨(hw'.cell (p := ⟨w.heap.size, 0, none⟩) (by first | omega | (simp; done) | (simp; omega))).trans (by go_simp), (hw'.cell (p := ⟨w.heap.size, 1, none⟩) (by first | omega | (simp; done) | (simp; omega))).trans (by go_simp), (hw'.cell (p := ⟨w.heap.size, 2, none⟩) (by first | omega | (simp; done) | (simp; omega))).trans (by go_simp), (hw'.cell (p := ⟨w.heap.size, 3, none⟩) (by first | omega | (simp; done) | (simp; omega))).trans (by go_simp)⟩
  have HS := Lib.hid hS; clear hS
  simp only [List.take_succ_cons, List.take_zero, List.drop_succ_cons, List.drop_zero]
  repeat (first | (refine wpBl_op ?_ ?_ (fun K hK => ?_); (focus rfl); (focus rfl); apply Exists.intro; refine ⟨fun w' hw' => ?_, ?_⟩; (focus (first | (go_simp; first | (go_at_call 60; exact isDayNumber_any _ _) | (go_at_call 66; exact calls_below (isMinute_any _ _)) | (go_at_call 59; exact DI.out _)) | (obtain ⟨kr0, kr1, kr2, kr3⟩ := HS.out w' hw'; go_simp; rfl))); go_simp; refine hK _ ?_; clear hK K) | (refine wpBl_mk ?_ ?_ (fun K hK => ⟨fun g => .pointer (some ⟨g, 0, none⟩), ?_⟩); (focus rfl); (focus rfl); apply Exists.intro; refine ⟨fun w' => ?_, ?_⟩; (focus (go_simp; rfl)); go_simp; refine hK _ _ _ ?_; clear hK K) | (refine wpBl_no ?_ ?_ (fun K hK => ?_); (focus rfl); (focus rfl); go_simp; refine hK _ ?_; clear hK K))
  refine wpBl_end (fun w1 b_w1 => TailW_nil ?_)
  obtain ⟨c_w1, f_w1, z_w1⟩ := bfacts b_w1 (by first | (simp; rfl) | rfl)
  have y0_w1 : w.heap.size < w1.heap.size := (by omega)
  have y1_w1 : w.heap.size + 1 < w1.heap.size := (by omega)
  have k0_0_w1 : w1.cell? ⟨w.heap.size, 0, none⟩ = some (.int .i64 (lat)) := (by first | exact (c_w1 _ _ (by omega)).trans (by go_simp) | go_simp)
  have l0_0_w1 : w1.frozen? ⟨w.heap.size, 0, none⟩ = false := (by first | exact (f_w1 _ _ (by omega)).trans (by go_simp) | go_simp)
  have k0_1_w1 : w1.cell? ⟨w.heap.size, 1, none⟩ = some (.int .i64 (az)) := (by first | exact (c_w1 _ _ (by omega)).trans (by go_simp) | go_simp)
  have l0_1_w1 : w1.frozen? ⟨w.heap.size, 1, none⟩ = false := (by first | exact (f_w1 _ _ (by omega)).trans (by go_simp) | go_simp)
  have k0_2_w1 : w1.cell? ⟨w.heap.size, 2, none⟩ = some (.int .i64 (sl)) := (by first | exact (c_w1 _ _ (by omega)).trans (by go_simp) | go_simp)
  have l0_2_w1 : w1.frozen? ⟨w.heap.size, 2, none⟩ = false := (by first | exact (f_w1 _ _ (by omega)).trans (by go_simp) | go_simp)
  have k0_3_w1 : w1.cell? ⟨w.heap.size, 3, none⟩ = some (.int .i64 (h)) := (by first | exact (c_w1 _ _ (by omega)).trans (by go_simp) | go_simp)
  have l0_3_w1 : w1.frozen? ⟨w.heap.size, 3, none⟩ = false := (by first | exact (f_w1 _ _ (by omega)).trans (by go_simp) | go_simp)
  have k1_0_w1 : w1.cell? ⟨w.heap.size + 1, 0, none⟩ = some (.int .i64 (0)) := (by first | exact (c_w1 _ _ (by omega)).trans (by go_simp) | go_simp)
  have l1_0_w1 : w1.frozen? ⟨w.heap.size + 1, 0, none⟩ = false := (by first | exact (f_w1 _ _ (by omega)).trans (by go_simp) | go_simp)
  have k1_1_w1 : w1.cell? ⟨w.heap.size + 1, 1, none⟩ = some (.int .i64 (0)) := (by first | exact (c_w1 _ _ (by omega)).trans (by go_simp) | go_simp)
  have l1_1_w1 : w1.frozen? ⟨w.heap.size + 1, 1, none⟩ = false := (by first | exact (f_w1 _ _ (by omega)).trans (by go_simp) | go_simp)
  have k1_2_w1 : w1.cell? ⟨w.heap.size + 1, 2, none⟩ = some (.int .i64 (0)) := (by first | exact (c_w1 _ _ (by omega)).trans (by go_simp) | go_simp)
  have l1_2_w1 : w1.frozen? ⟨w.heap.size + 1, 2, none⟩ = false := (by first | exact (f_w1 _ _ (by omega)).trans (by go_simp) | go_simp)
  have k1_3_w1 : w1.cell? ⟨w.heap.size + 1, 3, none⟩ = some (.int .i64 (0)) := (by first | exact (c_w1 _ _ (by omega)).trans (by go_simp) | go_simp)
  have l1_3_w1 : w1.frozen? ⟨w.heap.size + 1, 3, none⟩ = false := (by first | exact (f_w1 _ _ (by omega)).trans (by go_simp) | go_simp)
  clear c_w1 f_w1
  clear HS
  go_simp
  go_wp2_with fail
  refine (SH.out _).mono ?_
  rintro _ w2 ⟨rfl, b_w2⟩
  obtain ⟨c_w2, f_w2, z_w2⟩ := bfacts b_w2 (by first | (simp; rfl) | rfl); have y0_w2 : w.heap.size < w2.heap.size := (by omega); have y1_w2 : w.heap.size + 1 < w2.heap.size := (by omega); have k0_0_w2 : w2.cell? ⟨w.heap.size, 0, none⟩ = some (.int .i64 (lat)) := (by first | exact (c_w2 _ _ (by omega)).trans (by go_simp) | go_simp); have l0_0_w2 : w2.frozen? ⟨w.heap.size, 0, none⟩ = false := (by first | exact (f_w2 _ _ (by omega)).trans (by go_simp) | go_simp); have k0_1_w2 : w2.cell? ⟨w.heap.size, 1, none⟩ = some (.int .i64 (az)) := (by first | exact (c_w2 _ _ (by omega)).trans (by go_simp) | go_simp); have l0_1_w2 : w2.frozen? ⟨w.heap.size, 1, none⟩ = false := (by first | exact (f_w2 _ _ (by omega)).trans (by go_simp) | go_simp); have k0_2_w2 : w2.cell? ⟨w.heap.size, 2, none⟩ = some (.int .i64 (sl)) := (by first | exact (c_w2 _ _ (by omega)).trans (by go_simp) | go_simp); have l0_2_w2 : w2.frozen? ⟨w.heap.size, 2, none⟩ = false := (by first | exact (f_w2 _ _ (by omega)).trans (by go_simp) | go_simp); have k0_3_w2 : w2.cell? ⟨w.heap.size, 3, none⟩ = some (.int .i64 (h)) := (by first | exact (c_w2 _ _ (by omega)).trans (by go_simp) | go_simp); have l0_3_w2 : w2.frozen? ⟨w.heap.size, 3, none⟩ = false := (by first | exact (f_w2 _ _ (by omega)).trans (by go_simp) | go_simp); have k1_0_w2 : w2.cell? ⟨w.heap.size + 1, 0, none⟩ = some (.int .i64 (0)) := (by first | exact (c_w2 _ _ (by omega)).trans (by go_simp) | go_simp); have l1_0_w2 : w2.frozen? ⟨w.heap.size + 1, 0, none⟩ = false := (by first | exact (f_w2 _ _ (by omega)).trans (by go_simp) | go_simp); have k1_1_w2 : w2.cell? ⟨w.heap.size + 1, 1, none⟩ = some (.int .i64 (0)) := (by first | exact (c_w2 _ _ (by omega)).trans (by go_simp) | go_simp); have l1_1_w2 : w2.frozen? ⟨w.heap.size + 1, 1, none⟩ = false := (by first | exact (f_w2 _ _ (by omega)).trans (by go_simp) | go_simp); have k1_2_w2 : w2.cell? ⟨w.heap.size + 1, 2, none⟩ = some (.int .i64 (0)) := (by first | exact (c_w2 _ _ (by omega)).trans (by go_simp) | go_simp); have l1_2_w2 : w2.frozen? ⟨w.heap.size + 1, 2, none⟩ = false := (by first | exact (f_w2 _ _ (by omega)).trans (by go_simp) | go_simp); have k1_3_w2 : w2.cell? ⟨w.heap.size + 1, 3, none⟩ = some (.int .i64 (0)) := (by first | exact (c_w2 _ _ (by omega)).trans (by go_simp) | go_simp); have l1_3_w2 : w2.frozen? ⟨w.heap.size + 1, 3, none⟩ = false := (by first | exact (f_w2 _ _ (by omega)).trans (by go_simp) | go_simp); clear c_w2 f_w2
  go_wp2
  exact bodyPost_ret (v := .tuple #[(.agg #[.int .i64 (v.x.lo), .int .i64 (v.x.hi), .int .i64 (v.y.lo), .int .i64 (v.y.hi)]), .int .i64 0]) (by simp [results, Tryz.results19, go_sem, *]) rfl ⟨rfl, by (repeat' (first | with_reducible exact Below.refl _ _ | with_reducible refine Below.setCell ?_ ?_ _ | with_reducible refine Below.drew ?_ | with_reducible refine below_drewN ?_ _ | with_reducible refine Below.alloc ?_ ?_ _ | with_reducible refine below_step b_w2 ?_ ?_ | with_reducible refine below_step b_w1 ?_ ?_ | omega | (simp; done) | (simp; omega)))⟩


end Go.Proofs.YteooegliepbcnaaGreat
