/- Searches of walls: what the program's functions and the reference's return. -/
import Derived.Test.YtfhoogaijamekaaD
import Derived.Test.YtfhoogaijamekaaS2
namespace Go.Proofs.Ytfhoogaijamekaa
open Go.RowKit

def waB (a s : Int) : Bool := inB a 0 1295999 && inB s (-324000) 324000
theorem waB_t {a s : Int} (h : waB a s = true) : 0 ≤ a ∧ a ≤ 1295999 ∧ -324000 ≤ s ∧ s ≤ 324000 := by
  unfold waB at h
  rw [Bool.and_eq_true] at h
  have h1 := inB_iff.1 h.1
  have h2 := inB_iff.1 h.2
  omega
def ctM (fa fs ta ts st : Int) : Int := ((ta - fa) / st + 1) * ((ts - fs) / st + 1)
def seB (fa fs ta ts st : Int) : Bool := waB fa fs && (waB ta ts && (inB st 60 324000 && (decide (fa ≤ ta) && (decide (fs ≤ ts) && decide (ctM fa fs ta ts st ≤ 150)))))
theorem ctM_bd {fa fs ta ts st : Int} (h1 : 0 ≤ ta - fa) (h2 : ta - fa ≤ 1295999) (h3 : 0 ≤ ts - fs) (h4 : ts - fs ≤ 648000) (h5 : 60 ≤ st) :
    0 ≤ (ta - fa) / st ∧ (ta - fa) / st ≤ 1295999 ∧ 0 ≤ (ts - fs) / st ∧ (ts - fs) / st ≤ 648000 ∧ 0 ≤ ((ta - fa) / st + 1) * ((ts - fs) / st + 1) ∧ ((ta - fa) / st + 1) * ((ts - fs) / st + 1) ≤ 839809296000 := by
  have a1 : 0 ≤ (ta - fa) / st := Int.ediv_nonneg h1 (by omega)
  have a2 : (ta - fa) / st ≤ ta - fa := Int.ediv_le_self _ h1
  have b1 : 0 ≤ (ts - fs) / st := Int.ediv_nonneg h3 (by omega)
  have b2 : (ts - fs) / st ≤ ts - fs := Int.ediv_le_self _ h3
  refine ⟨a1, by omega, b1, by omega, Int.mul_nonneg (by omega) (by omega), ?_⟩
  have := Int.mul_le_mul (show (ta - fa) / st + 1 ≤ 1296000 by omega) (show (ts - fs) / st + 1 ≤ 648001 by omega) (by omega) (by omega)
  omega


set_option maxHeartbeats 400000 in
theorem IsWall_any (a s : Int) (w : World) :
    Calls Try.prog 29 #[(.agg #[.int .i64 (a), .int .i64 (s)])] w fun e w' => e = .returned (.bool (waB a s)) ∧ Below w.heap.size w w' := by
  have r := Lib.hid (show waB a s = (inB a 0 1295999 && inB s (-324000) 324000) from rfl)
  cases p : inB a 0 1295999
  · go_enter Try.func29, Try.ntmps29
    go_wp2_with (go_at_call 34; refine (in_any _ _ _ _).mono ?_; rintro e w' ⟨rfl, rfl⟩)
    go_ret
    exact ⟨ret_bool (by rw [r.out, p]; rfl), by (repeat' (first | with_reducible exact Below.refl _ _ | with_reducible assumption | with_reducible refine Below.setCell ?_ ?_ _ | with_reducible refine Below.drew ?_ | with_reducible refine below_drewN ?_ _ | with_reducible refine Below.alloc ?_ ?_ _ | with_reducible refine below_step (by assumption) ?_ ?_ | omega | exact Below.size (by assumption) | (simp; done) | (simp; omega)))⟩
  · go_enter Try.func29, Try.ntmps29
    go_wp2_with (go_at_call 34; refine (in_any _ _ _ _).mono ?_; rintro e w' ⟨rfl, rfl⟩)
    go_ret
    exact ⟨ret_bool (by rw [r.out, p]; rfl), by (repeat' (first | with_reducible exact Below.refl _ _ | with_reducible assumption | with_reducible refine Below.setCell ?_ ?_ _ | with_reducible refine Below.drew ?_ | with_reducible refine below_drewN ?_ _ | with_reducible refine Below.alloc ?_ ?_ _ | with_reducible refine below_step (by assumption) ?_ ?_ | omega | exact Below.size (by assumption) | (simp; done) | (simp; omega)))⟩

set_option maxHeartbeats 400000 in
theorem sLatitude_any (a : Int) (w : World) :
    Calls Try.prog 43 #[.int .i64 a] w fun e w' => e = .returned (.bool (inB a (-324000) 324000)) ∧ w = w' := by
  go_enter Try.func43, Try.ntmps43
  go_wp2_with (go_at_call 42; refine (sIn_any _ _ _ _).mono ?_; rintro e w' ⟨rfl, rfl⟩)
  go_ret
  exact ⟨rfl, rfl⟩
set_option maxHeartbeats 400000 in
theorem sIsWall_any (a s : Int) (w : World) :
    Calls Try.prog 25 #[(.agg #[.int .i64 (a), .int .i64 (s)])] w fun e w' => e = .returned (.bool (waB a s)) ∧ Below w.heap.size w w' := by
  have r := Lib.hid (show waB a s = (inB a 0 1295999 && inB s (-324000) 324000) from rfl)
  cases p : inB a 0 1295999
  · go_enter Try.func25, Try.ntmps25
    go_wp2_with (first | (go_at_call 42; refine (sIn_any _ _ _ _).mono ?_; rintro e w' ⟨rfl, rfl⟩) | (go_at_call 43; refine (sLatitude_any _ _).mono ?_; rintro e w' ⟨rfl, rfl⟩))
    go_ret
    exact ⟨ret_bool (by rw [r.out, p]; rfl), by (repeat' (first | with_reducible exact Below.refl _ _ | with_reducible assumption | with_reducible refine Below.setCell ?_ ?_ _ | with_reducible refine Below.drew ?_ | with_reducible refine below_drewN ?_ _ | with_reducible refine Below.alloc ?_ ?_ _ | with_reducible refine below_step (by assumption) ?_ ?_ | omega | exact Below.size (by assumption) | (simp; done) | (simp; omega)))⟩
  · go_enter Try.func25, Try.ntmps25
    go_wp2_with (first | (go_at_call 42; refine (sIn_any _ _ _ _).mono ?_; rintro e w' ⟨rfl, rfl⟩) | (go_at_call 43; refine (sLatitude_any _ _).mono ?_; rintro e w' ⟨rfl, rfl⟩))
    go_ret
    exact ⟨ret_bool (by rw [r.out, p]; rfl), by (repeat' (first | with_reducible exact Below.refl _ _ | with_reducible assumption | with_reducible refine Below.setCell ?_ ?_ _ | with_reducible refine Below.drew ?_ | with_reducible refine below_drewN ?_ _ | with_reducible refine Below.alloc ?_ ?_ _ | with_reducible refine below_step (by assumption) ?_ ?_ | omega | exact Below.size (by assumption) | (simp; done) | (simp; omega)))⟩

set_option maxHeartbeats 400000 in
theorem isStep_any (a : Int) (w : World) :
    Calls Try.prog 30 #[.int .i64 a] w fun e w' => e = .returned (.bool (inB a 60 324000)) ∧ w = w' := by
  go_enter Try.func30, Try.ntmps30
  go_wp2_with (go_at_call 34; refine (in_any _ _ _ _).mono ?_; rintro e w' ⟨rfl, rfl⟩)
  go_ret
  exact ⟨rfl, rfl⟩

set_option maxHeartbeats 400000 in
theorem sStep_any (a : Int) (w : World) :
    Calls Try.prog 26 #[.int .i64 a] w fun e w' => e = .returned (.bool (inB a 60 324000)) ∧ w = w' := by
  go_enter Try.func26, Try.ntmps26
  go_wp2_with (go_at_call 42; refine (sIn_any _ _ _ _).mono ?_; rintro e w' ⟨rfl, rfl⟩)
  go_ret
  exact ⟨rfl, rfl⟩

set_option maxHeartbeats 1000000 in
theorem count_any (fa fs ta ts st : Int) (w : World) (h1 : 0 ≤ ta - fa) (h2 : ta - fa ≤ 1295999) (h3 : 0 ≤ ts - fs) (h4 : ts - fs ≤ 648000) (h5 : 60 ≤ st) :
    Calls Try.prog 31 #[(.agg #[.int .i64 (fa), .int .i64 (fs), .int .i64 (ta), .int .i64 (ts), .int .i64 (st)])] w fun e w' => e = .returned (.int .i64 (ctM fa fs ta ts st)) ∧ Below w.heap.size w w' := by
  obtain ⟨b1, b2, b3, b4, b5, b6⟩ := ctM_bd h1 h2 h3 h4 h5
  have d1 : (ta - fa).tdiv st = (ta - fa) / st := Int.tdiv_eq_ediv_of_nonneg h1
  have d2 : (ts - fs).tdiv st = (ts - fs) / st := Int.tdiv_eq_ediv_of_nonneg h3
  have d3 : st ≠ 0 := by omega
  have d4 : decide (st = 0) = false := decide_eq_false d3
  have e1 : IntKind.i64.wrap (ta - fa) = ta - fa := IntWalk.i64_in _ (by omega)
  have e2 : IntKind.i64.wrap (ts - fs) = ts - fs := IntWalk.i64_in _ (by omega)
  have e3 : IntKind.i64.wrap ((ta - fa) / st) = (ta - fa) / st := IntWalk.i64_in _ (by omega)
  have e4 : IntKind.i64.wrap ((ts - fs) / st) = (ts - fs) / st := IntWalk.i64_in _ (by omega)
  have e5 : IntKind.i64.wrap ((ta - fa) / st + 1) = (ta - fa) / st + 1 := IntWalk.i64_in _ (by omega)
  have e6 : IntKind.i64.wrap ((ts - fs) / st + 1) = (ts - fs) / st + 1 := IntWalk.i64_in _ (by omega)
  have e7 : IntKind.i64.wrap (((ta - fa) / st + 1) * ((ts - fs) / st + 1)) = ((ta - fa) / st + 1) * ((ts - fs) / st + 1) := IntWalk.i64_in _ (by omega)
  go_enter Try.func31, Try.ntmps31
  go_wp2_with fail
  refine wp_region_bl2 23 (fun w' => w'.cell? ⟨w.heap.size, 0, none⟩ = some (.int .i64 (fa)) ∧ w'.cell? ⟨w.heap.size, 1, none⟩ = some (.int .i64 (fs)) ∧ w'.cell? ⟨w.heap.size, 2, none⟩ = some (.int .i64 (ta)) ∧ w'.cell? ⟨w.heap.size, 3, none⟩ = some (.int .i64 (ts)) ∧ w'.cell? ⟨w.heap.size, 4, none⟩ = some (.int .i64 (st))) (by kernel_rfl) (by kernel_rfl) (by rfl) (fun w' hw' => ?_) (fun hS => ?_)
  focus exact ⟨(hw'.cell (p := ⟨w.heap.size, 0, none⟩) (by first | omega | (simp; done) | (simp; omega))).trans (by go_simp), (hw'.cell (p := ⟨w.heap.size, 1, none⟩) (by first | omega | (simp; done) | (simp; omega))).trans (by go_simp), (hw'.cell (p := ⟨w.heap.size, 2, none⟩) (by first | omega | (simp; done) | (simp; omega))).trans (by go_simp), (hw'.cell (p := ⟨w.heap.size, 3, none⟩) (by first | omega | (simp; done) | (simp; omega))).trans (by go_simp), (hw'.cell (p := ⟨w.heap.size, 4, none⟩) (by first | omega | (simp; done) | (simp; omega))).trans (by go_simp)⟩
  have HS := Lib.hid hS; clear hS
  simp only [List.take_succ_cons, List.take_zero, List.drop_succ_cons, List.drop_zero]
  repeat (first | (refine wpBl_op ?_ ?_ (fun K hK => ?_); (focus rfl); (focus rfl); apply Exists.intro; refine ⟨fun w' hw' => ?_, ?_⟩; (focus (first | (obtain ⟨kr0, kr1, kr2, kr3, kr4⟩ := HS.out w' hw'; go_simp; rfl))); go_simp; refine hK _ ?_; clear hK K) | (refine wpBl_mk ?_ ?_ (fun K hK => ⟨fun g => .pointer (some ⟨g, 0, none⟩), ?_⟩); (focus rfl); (focus rfl); apply Exists.intro; refine ⟨fun w' => ?_, ?_⟩; (focus (go_simp; rfl)); go_simp; refine hK _ _ _ ?_; clear hK K) | (refine wpBl_no ?_ ?_ (fun K hK => ?_); (focus rfl); (focus rfl); go_simp; refine hK _ ?_; clear hK K))
  refine wpBl_end (fun w1 b_w1 => TailW_nil ?_)
  obtain ⟨c_w1, f_w1, z_w1⟩ := bfacts b_w1 (by first | (simp; rfl) | rfl)
  have y0_w1 : w.heap.size < w1.heap.size := (by omega)
  have k0_0_w1 : w1.cell? ⟨w.heap.size, 0, none⟩ = some (.int .i64 (fa)) := (by first | exact (c_w1 _ _ (by omega)).trans (by go_simp) | go_simp)
  have l0_0_w1 : w1.frozen? ⟨w.heap.size, 0, none⟩ = false := (by first | exact (f_w1 _ _ (by omega)).trans (by go_simp) | go_simp)
  have k0_1_w1 : w1.cell? ⟨w.heap.size, 1, none⟩ = some (.int .i64 (fs)) := (by first | exact (c_w1 _ _ (by omega)).trans (by go_simp) | go_simp)
  have l0_1_w1 : w1.frozen? ⟨w.heap.size, 1, none⟩ = false := (by first | exact (f_w1 _ _ (by omega)).trans (by go_simp) | go_simp)
  have k0_2_w1 : w1.cell? ⟨w.heap.size, 2, none⟩ = some (.int .i64 (ta)) := (by first | exact (c_w1 _ _ (by omega)).trans (by go_simp) | go_simp)
  have l0_2_w1 : w1.frozen? ⟨w.heap.size, 2, none⟩ = false := (by first | exact (f_w1 _ _ (by omega)).trans (by go_simp) | go_simp)
  have k0_3_w1 : w1.cell? ⟨w.heap.size, 3, none⟩ = some (.int .i64 (ts)) := (by first | exact (c_w1 _ _ (by omega)).trans (by go_simp) | go_simp)
  have l0_3_w1 : w1.frozen? ⟨w.heap.size, 3, none⟩ = false := (by first | exact (f_w1 _ _ (by omega)).trans (by go_simp) | go_simp)
  have k0_4_w1 : w1.cell? ⟨w.heap.size, 4, none⟩ = some (.int .i64 (st)) := (by first | exact (c_w1 _ _ (by omega)).trans (by go_simp) | go_simp)
  have l0_4_w1 : w1.frozen? ⟨w.heap.size, 4, none⟩ = false := (by first | exact (f_w1 _ _ (by omega)).trans (by go_simp) | go_simp)
  clear c_w1 f_w1
  clear HS
  go_simp
  go_wp2
  go_ret
  exact ⟨rfl, by (repeat' (first | with_reducible exact Below.refl _ _ | with_reducible assumption | with_reducible refine Below.setCell ?_ ?_ _ | with_reducible refine Below.drew ?_ | with_reducible refine below_drewN ?_ _ | with_reducible refine Below.alloc ?_ ?_ _ | with_reducible refine below_step (by assumption) ?_ ?_ | omega | exact Below.size (by assumption) | (simp; done) | (simp; omega)))⟩

set_option maxHeartbeats 1000000 in
theorem sCount_any (fa fs ta ts st : Int) (w : World) (h1 : 0 ≤ ta - fa) (h2 : ta - fa ≤ 1295999) (h3 : 0 ≤ ts - fs) (h4 : ts - fs ≤ 648000) (h5 : 60 ≤ st) :
    Calls Try.prog 27 #[(.agg #[.int .i64 (fa), .int .i64 (fs), .int .i64 (ta), .int .i64 (ts), .int .i64 (st)])] w fun e w' => e = .returned (.int .i64 (ctM fa fs ta ts st)) ∧ Below w.heap.size w w' := by
  obtain ⟨b1, b2, b3, b4, b5, b6⟩ := ctM_bd h1 h2 h3 h4 h5
  have d1 : (ta - fa).tdiv st = (ta - fa) / st := Int.tdiv_eq_ediv_of_nonneg h1
  have d2 : (ts - fs).tdiv st = (ts - fs) / st := Int.tdiv_eq_ediv_of_nonneg h3
  have d3 : st ≠ 0 := by omega
  have d4 : decide (st = 0) = false := decide_eq_false d3
  have e1 : IntKind.i64.wrap (ta - fa) = ta - fa := IntWalk.i64_in _ (by omega)
  have e2 : IntKind.i64.wrap (ts - fs) = ts - fs := IntWalk.i64_in _ (by omega)
  have e3 : IntKind.i64.wrap ((ta - fa) / st) = (ta - fa) / st := IntWalk.i64_in _ (by omega)
  have e4 : IntKind.i64.wrap ((ts - fs) / st) = (ts - fs) / st := IntWalk.i64_in _ (by omega)
  have e5 : IntKind.i64.wrap ((ta - fa) / st + 1) = (ta - fa) / st + 1 := IntWalk.i64_in _ (by omega)
  have e6 : IntKind.i64.wrap ((ts - fs) / st + 1) = (ts - fs) / st + 1 := IntWalk.i64_in _ (by omega)
  have e7 : IntKind.i64.wrap (((ta - fa) / st + 1) * ((ts - fs) / st + 1)) = ((ta - fa) / st + 1) * ((ts - fs) / st + 1) := IntWalk.i64_in _ (by omega)
  go_enter Try.func27, Try.ntmps27
  go_wp2_with fail
  refine wp_region_bl2 23 (fun w' => w'.cell? ⟨w.heap.size, 0, none⟩ = some (.int .i64 (fa)) ∧ w'.cell? ⟨w.heap.size, 1, none⟩ = some (.int .i64 (fs)) ∧ w'.cell? ⟨w.heap.size, 2, none⟩ = some (.int .i64 (ta)) ∧ w'.cell? ⟨w.heap.size, 3, none⟩ = some (.int .i64 (ts)) ∧ w'.cell? ⟨w.heap.size, 4, none⟩ = some (.int .i64 (st))) (by kernel_rfl) (by kernel_rfl) (by rfl) (fun w' hw' => ?_) (fun hS => ?_)
  focus exact ⟨(hw'.cell (p := ⟨w.heap.size, 0, none⟩) (by first | omega | (simp; done) | (simp; omega))).trans (by go_simp), (hw'.cell (p := ⟨w.heap.size, 1, none⟩) (by first | omega | (simp; done) | (simp; omega))).trans (by go_simp), (hw'.cell (p := ⟨w.heap.size, 2, none⟩) (by first | omega | (simp; done) | (simp; omega))).trans (by go_simp), (hw'.cell (p := ⟨w.heap.size, 3, none⟩) (by first | omega | (simp; done) | (simp; omega))).trans (by go_simp), (hw'.cell (p := ⟨w.heap.size, 4, none⟩) (by first | omega | (simp; done) | (simp; omega))).trans (by go_simp)⟩
  have HS := Lib.hid hS; clear hS
  simp only [List.take_succ_cons, List.take_zero, List.drop_succ_cons, List.drop_zero]
  repeat (first | (refine wpBl_op ?_ ?_ (fun K hK => ?_); (focus rfl); (focus rfl); apply Exists.intro; refine ⟨fun w' hw' => ?_, ?_⟩; (focus (first | (obtain ⟨kr0, kr1, kr2, kr3, kr4⟩ := HS.out w' hw'; go_simp; rfl))); go_simp; refine hK _ ?_; clear hK K) | (refine wpBl_mk ?_ ?_ (fun K hK => ⟨fun g => .pointer (some ⟨g, 0, none⟩), ?_⟩); (focus rfl); (focus rfl); apply Exists.intro; refine ⟨fun w' => ?_, ?_⟩; (focus (go_simp; rfl)); go_simp; refine hK _ _ _ ?_; clear hK K) | (refine wpBl_no ?_ ?_ (fun K hK => ?_); (focus rfl); (focus rfl); go_simp; refine hK _ ?_; clear hK K))
  refine wpBl_end (fun w1 b_w1 => TailW_nil ?_)
  obtain ⟨c_w1, f_w1, z_w1⟩ := bfacts b_w1 (by first | (simp; rfl) | rfl)
  have y0_w1 : w.heap.size < w1.heap.size := (by omega)
  have k0_0_w1 : w1.cell? ⟨w.heap.size, 0, none⟩ = some (.int .i64 (fa)) := (by first | exact (c_w1 _ _ (by omega)).trans (by go_simp) | go_simp)
  have l0_0_w1 : w1.frozen? ⟨w.heap.size, 0, none⟩ = false := (by first | exact (f_w1 _ _ (by omega)).trans (by go_simp) | go_simp)
  have k0_1_w1 : w1.cell? ⟨w.heap.size, 1, none⟩ = some (.int .i64 (fs)) := (by first | exact (c_w1 _ _ (by omega)).trans (by go_simp) | go_simp)
  have l0_1_w1 : w1.frozen? ⟨w.heap.size, 1, none⟩ = false := (by first | exact (f_w1 _ _ (by omega)).trans (by go_simp) | go_simp)
  have k0_2_w1 : w1.cell? ⟨w.heap.size, 2, none⟩ = some (.int .i64 (ta)) := (by first | exact (c_w1 _ _ (by omega)).trans (by go_simp) | go_simp)
  have l0_2_w1 : w1.frozen? ⟨w.heap.size, 2, none⟩ = false := (by first | exact (f_w1 _ _ (by omega)).trans (by go_simp) | go_simp)
  have k0_3_w1 : w1.cell? ⟨w.heap.size, 3, none⟩ = some (.int .i64 (ts)) := (by first | exact (c_w1 _ _ (by omega)).trans (by go_simp) | go_simp)
  have l0_3_w1 : w1.frozen? ⟨w.heap.size, 3, none⟩ = false := (by first | exact (f_w1 _ _ (by omega)).trans (by go_simp) | go_simp)
  have k0_4_w1 : w1.cell? ⟨w.heap.size, 4, none⟩ = some (.int .i64 (st)) := (by first | exact (c_w1 _ _ (by omega)).trans (by go_simp) | go_simp)
  have l0_4_w1 : w1.frozen? ⟨w.heap.size, 4, none⟩ = false := (by first | exact (f_w1 _ _ (by omega)).trans (by go_simp) | go_simp)
  clear c_w1 f_w1
  clear HS
  go_simp
  go_wp2
  go_ret
  exact ⟨rfl, by (repeat' (first | with_reducible exact Below.refl _ _ | with_reducible assumption | with_reducible refine Below.setCell ?_ ?_ _ | with_reducible refine Below.drew ?_ | with_reducible refine below_drewN ?_ _ | with_reducible refine Below.alloc ?_ ?_ _ | with_reducible refine below_step (by assumption) ?_ ?_ | omega | exact Below.size (by assumption) | (simp; done) | (simp; omega)))⟩

set_option maxHeartbeats 2000000 in
theorem IsSearch_any (fa fs ta ts st : Int) (w : World) :
    Calls Try.prog 11 #[(.agg #[.int .i64 (fa), .int .i64 (fs), .int .i64 (ta), .int .i64 (ts), .int .i64 (st)])] w fun e w' => e = .returned (.bool (seB fa fs ta ts st)) ∧ Below w.heap.size w w' := by
  have r := Lib.hid (show seB fa fs ta ts st = (waB fa fs && (waB ta ts && (inB st 60 324000 && (decide (fa ≤ ta) && (decide (fs ≤ ts) && decide (ctM fa fs ta ts st ≤ 150)))))) from rfl)
  go_enter Try.func11, Try.ntmps11
  go_wp2_with fail
  refine (IsWall_any fa fs _).mono ?_
  rintro _ w1 ⟨rfl, b_w1⟩
  obtain ⟨c_w1, f_w1, z_w1⟩ := bfacts b_w1 (by first | (simp; rfl) | rfl); have y0_w1 : w.heap.size < w1.heap.size := (by omega); have k0_0_w1 : w1.cell? ⟨w.heap.size, 0, none⟩ = some (.int .i64 (fa)) := (by first | exact (c_w1 _ _ (by omega)).trans (by go_simp) | go_simp); have l0_0_w1 : w1.frozen? ⟨w.heap.size, 0, none⟩ = false := (by first | exact (f_w1 _ _ (by omega)).trans (by go_simp) | go_simp); have k0_1_w1 : w1.cell? ⟨w.heap.size, 1, none⟩ = some (.int .i64 (fs)) := (by first | exact (c_w1 _ _ (by omega)).trans (by go_simp) | go_simp); have l0_1_w1 : w1.frozen? ⟨w.heap.size, 1, none⟩ = false := (by first | exact (f_w1 _ _ (by omega)).trans (by go_simp) | go_simp); have k0_2_w1 : w1.cell? ⟨w.heap.size, 2, none⟩ = some (.int .i64 (ta)) := (by first | exact (c_w1 _ _ (by omega)).trans (by go_simp) | go_simp); have l0_2_w1 : w1.frozen? ⟨w.heap.size, 2, none⟩ = false := (by first | exact (f_w1 _ _ (by omega)).trans (by go_simp) | go_simp); have k0_3_w1 : w1.cell? ⟨w.heap.size, 3, none⟩ = some (.int .i64 (ts)) := (by first | exact (c_w1 _ _ (by omega)).trans (by go_simp) | go_simp); have l0_3_w1 : w1.frozen? ⟨w.heap.size, 3, none⟩ = false := (by first | exact (f_w1 _ _ (by omega)).trans (by go_simp) | go_simp); have k0_4_w1 : w1.cell? ⟨w.heap.size, 4, none⟩ = some (.int .i64 (st)) := (by first | exact (c_w1 _ _ (by omega)).trans (by go_simp) | go_simp); have l0_4_w1 : w1.frozen? ⟨w.heap.size, 4, none⟩ = false := (by first | exact (f_w1 _ _ (by omega)).trans (by go_simp) | go_simp); clear c_w1 f_w1
  cases p1 : waB fa fs
  · go_wp2_with fail
    go_ret
    exact ⟨ret_bool (by rw [r.out, p1]; rfl), by (repeat' (first | with_reducible exact Below.refl _ _ | with_reducible refine Below.setCell ?_ ?_ _ | with_reducible refine Below.drew ?_ | with_reducible refine below_drewN ?_ _ | with_reducible refine Below.alloc ?_ ?_ _ | with_reducible refine below_step b_w1 ?_ ?_ | omega | (simp; done) | (simp; omega)))⟩
  · have q1 := waB_t p1
    go_wp2_with fail
    refine (IsWall_any ta ts _).mono ?_
    rintro _ w2 ⟨rfl, b_w2⟩
    obtain ⟨c_w2, f_w2, z_w2⟩ := bfacts b_w2 (by first | (simp; rfl) | rfl); have y0_w2 : w.heap.size < w2.heap.size := (by omega); have k0_0_w2 : w2.cell? ⟨w.heap.size, 0, none⟩ = some (.int .i64 (fa)) := (by first | exact (c_w2 _ _ (by omega)).trans (by go_simp) | go_simp); have l0_0_w2 : w2.frozen? ⟨w.heap.size, 0, none⟩ = false := (by first | exact (f_w2 _ _ (by omega)).trans (by go_simp) | go_simp); have k0_1_w2 : w2.cell? ⟨w.heap.size, 1, none⟩ = some (.int .i64 (fs)) := (by first | exact (c_w2 _ _ (by omega)).trans (by go_simp) | go_simp); have l0_1_w2 : w2.frozen? ⟨w.heap.size, 1, none⟩ = false := (by first | exact (f_w2 _ _ (by omega)).trans (by go_simp) | go_simp); have k0_2_w2 : w2.cell? ⟨w.heap.size, 2, none⟩ = some (.int .i64 (ta)) := (by first | exact (c_w2 _ _ (by omega)).trans (by go_simp) | go_simp); have l0_2_w2 : w2.frozen? ⟨w.heap.size, 2, none⟩ = false := (by first | exact (f_w2 _ _ (by omega)).trans (by go_simp) | go_simp); have k0_3_w2 : w2.cell? ⟨w.heap.size, 3, none⟩ = some (.int .i64 (ts)) := (by first | exact (c_w2 _ _ (by omega)).trans (by go_simp) | go_simp); have l0_3_w2 : w2.frozen? ⟨w.heap.size, 3, none⟩ = false := (by first | exact (f_w2 _ _ (by omega)).trans (by go_simp) | go_simp); have k0_4_w2 : w2.cell? ⟨w.heap.size, 4, none⟩ = some (.int .i64 (st)) := (by first | exact (c_w2 _ _ (by omega)).trans (by go_simp) | go_simp); have l0_4_w2 : w2.frozen? ⟨w.heap.size, 4, none⟩ = false := (by first | exact (f_w2 _ _ (by omega)).trans (by go_simp) | go_simp); clear c_w2 f_w2
    cases p2 : waB ta ts
    · go_wp2_with fail
      go_ret
      exact ⟨ret_bool (by rw [r.out, p1, p2]; rfl), by (repeat' (first | with_reducible exact Below.refl _ _ | with_reducible refine Below.setCell ?_ ?_ _ | with_reducible refine Below.drew ?_ | with_reducible refine below_drewN ?_ _ | with_reducible refine Below.alloc ?_ ?_ _ | with_reducible refine below_step b_w2 ?_ ?_ | with_reducible refine below_step b_w1 ?_ ?_ | omega | (simp; done) | (simp; omega)))⟩
    · have q2 := waB_t p2
      go_wp2_with fail
      refine (isStep_any st _).mono ?_
      rintro _ w3 ⟨rfl, rfl⟩
      cases p3 : inB st 60 324000
      · go_wp2_with fail
        go_ret
        exact ⟨ret_bool (by rw [r.out, p1, p2, p3]; rfl), by (repeat' (first | with_reducible exact Below.refl _ _ | with_reducible refine Below.setCell ?_ ?_ _ | with_reducible refine Below.drew ?_ | with_reducible refine below_drewN ?_ _ | with_reducible refine Below.alloc ?_ ?_ _ | with_reducible refine below_step b_w2 ?_ ?_ | with_reducible refine below_step b_w1 ?_ ?_ | omega | (simp; done) | (simp; omega)))⟩
      · have q3 := inB_iff.1 p3
        cases p4 : decide (fa ≤ ta)
        · go_wp2_with fail
          go_ret
          exact ⟨ret_bool (by rw [r.out, p1, p2, p3, p4]; rfl), by (repeat' (first | with_reducible exact Below.refl _ _ | with_reducible refine Below.setCell ?_ ?_ _ | with_reducible refine Below.drew ?_ | with_reducible refine below_drewN ?_ _ | with_reducible refine Below.alloc ?_ ?_ _ | with_reducible refine below_step b_w2 ?_ ?_ | with_reducible refine below_step b_w1 ?_ ?_ | omega | (simp; done) | (simp; omega)))⟩
        · cases p5 : decide (fs ≤ ts)
          · go_wp2_with fail
            go_ret
            exact ⟨ret_bool (by rw [r.out, p1, p2, p3, p4, p5]; rfl), by (repeat' (first | with_reducible exact Below.refl _ _ | with_reducible refine Below.setCell ?_ ?_ _ | with_reducible refine Below.drew ?_ | with_reducible refine below_drewN ?_ _ | with_reducible refine Below.alloc ?_ ?_ _ | with_reducible refine below_step b_w2 ?_ ?_ | with_reducible refine below_step b_w1 ?_ ?_ | omega | (simp; done) | (simp; omega)))⟩
          · have q4 := of_decide_eq_true p4
            have q5 := of_decide_eq_true p5
            have f1 : 0 ≤ ta - fa ∧ ta - fa ≤ 1295999 ∧ 0 ≤ ts - fs ∧ ts - fs ≤ 648000 := by omega
            go_wp2_with fail
            refine (count_any fa fs ta ts st _ f1.1 f1.2.1 f1.2.2.1 f1.2.2.2 q3.1).mono ?_
            rintro _ w4 ⟨rfl, b_w4⟩
            go_wp2_with fail
            go_ret
            exact ⟨ret_bool (by rw [r.out, p1, p2, p3, p4, p5]; simp), by (repeat' (first | with_reducible exact Below.refl _ _ | with_reducible refine Below.setCell ?_ ?_ _ | with_reducible refine Below.drew ?_ | with_reducible refine below_drewN ?_ _ | with_reducible refine Below.alloc ?_ ?_ _ | with_reducible refine below_step b_w4 ?_ ?_ | with_reducible refine below_step b_w2 ?_ ?_ | with_reducible refine below_step b_w1 ?_ ?_ | omega | (simp; done) | (simp; omega)))⟩

set_option maxHeartbeats 2000000 in
theorem sIsSearch_any (fa fs ta ts st : Int) (w : World) :
    Calls Try.prog 9 #[(.agg #[.int .i64 (fa), .int .i64 (fs), .int .i64 (ta), .int .i64 (ts), .int .i64 (st)])] w fun e w' => e = .returned (.bool (seB fa fs ta ts st)) ∧ Below w.heap.size w w' := by
  have r := Lib.hid (show seB fa fs ta ts st = (waB fa fs && (waB ta ts && (inB st 60 324000 && (decide (fa ≤ ta) && (decide (fs ≤ ts) && decide (ctM fa fs ta ts st ≤ 150)))))) from rfl)
  go_enter Try.func9, Try.ntmps9
  go_wp2_with fail
  refine (sIsWall_any fa fs _).mono ?_
  rintro _ w1 ⟨rfl, b_w1⟩
  obtain ⟨c_w1, f_w1, z_w1⟩ := bfacts b_w1 (by first | (simp; rfl) | rfl); have y0_w1 : w.heap.size < w1.heap.size := (by omega); have k0_0_w1 : w1.cell? ⟨w.heap.size, 0, none⟩ = some (.int .i64 (fa)) := (by first | exact (c_w1 _ _ (by omega)).trans (by go_simp) | go_simp); have l0_0_w1 : w1.frozen? ⟨w.heap.size, 0, none⟩ = false := (by first | exact (f_w1 _ _ (by omega)).trans (by go_simp) | go_simp); have k0_1_w1 : w1.cell? ⟨w.heap.size, 1, none⟩ = some (.int .i64 (fs)) := (by first | exact (c_w1 _ _ (by omega)).trans (by go_simp) | go_simp); have l0_1_w1 : w1.frozen? ⟨w.heap.size, 1, none⟩ = false := (by first | exact (f_w1 _ _ (by omega)).trans (by go_simp) | go_simp); have k0_2_w1 : w1.cell? ⟨w.heap.size, 2, none⟩ = some (.int .i64 (ta)) := (by first | exact (c_w1 _ _ (by omega)).trans (by go_simp) | go_simp); have l0_2_w1 : w1.frozen? ⟨w.heap.size, 2, none⟩ = false := (by first | exact (f_w1 _ _ (by omega)).trans (by go_simp) | go_simp); have k0_3_w1 : w1.cell? ⟨w.heap.size, 3, none⟩ = some (.int .i64 (ts)) := (by first | exact (c_w1 _ _ (by omega)).trans (by go_simp) | go_simp); have l0_3_w1 : w1.frozen? ⟨w.heap.size, 3, none⟩ = false := (by first | exact (f_w1 _ _ (by omega)).trans (by go_simp) | go_simp); have k0_4_w1 : w1.cell? ⟨w.heap.size, 4, none⟩ = some (.int .i64 (st)) := (by first | exact (c_w1 _ _ (by omega)).trans (by go_simp) | go_simp); have l0_4_w1 : w1.frozen? ⟨w.heap.size, 4, none⟩ = false := (by first | exact (f_w1 _ _ (by omega)).trans (by go_simp) | go_simp); clear c_w1 f_w1
  cases p1 : waB fa fs
  · go_wp2_with fail
    go_ret
    exact ⟨ret_bool (by rw [r.out, p1]; rfl), by (repeat' (first | with_reducible exact Below.refl _ _ | with_reducible refine Below.setCell ?_ ?_ _ | with_reducible refine Below.drew ?_ | with_reducible refine below_drewN ?_ _ | with_reducible refine Below.alloc ?_ ?_ _ | with_reducible refine below_step b_w1 ?_ ?_ | omega | (simp; done) | (simp; omega)))⟩
  · have q1 := waB_t p1
    go_wp2_with fail
    refine (sIsWall_any ta ts _).mono ?_
    rintro _ w2 ⟨rfl, b_w2⟩
    obtain ⟨c_w2, f_w2, z_w2⟩ := bfacts b_w2 (by first | (simp; rfl) | rfl); have y0_w2 : w.heap.size < w2.heap.size := (by omega); have k0_0_w2 : w2.cell? ⟨w.heap.size, 0, none⟩ = some (.int .i64 (fa)) := (by first | exact (c_w2 _ _ (by omega)).trans (by go_simp) | go_simp); have l0_0_w2 : w2.frozen? ⟨w.heap.size, 0, none⟩ = false := (by first | exact (f_w2 _ _ (by omega)).trans (by go_simp) | go_simp); have k0_1_w2 : w2.cell? ⟨w.heap.size, 1, none⟩ = some (.int .i64 (fs)) := (by first | exact (c_w2 _ _ (by omega)).trans (by go_simp) | go_simp); have l0_1_w2 : w2.frozen? ⟨w.heap.size, 1, none⟩ = false := (by first | exact (f_w2 _ _ (by omega)).trans (by go_simp) | go_simp); have k0_2_w2 : w2.cell? ⟨w.heap.size, 2, none⟩ = some (.int .i64 (ta)) := (by first | exact (c_w2 _ _ (by omega)).trans (by go_simp) | go_simp); have l0_2_w2 : w2.frozen? ⟨w.heap.size, 2, none⟩ = false := (by first | exact (f_w2 _ _ (by omega)).trans (by go_simp) | go_simp); have k0_3_w2 : w2.cell? ⟨w.heap.size, 3, none⟩ = some (.int .i64 (ts)) := (by first | exact (c_w2 _ _ (by omega)).trans (by go_simp) | go_simp); have l0_3_w2 : w2.frozen? ⟨w.heap.size, 3, none⟩ = false := (by first | exact (f_w2 _ _ (by omega)).trans (by go_simp) | go_simp); have k0_4_w2 : w2.cell? ⟨w.heap.size, 4, none⟩ = some (.int .i64 (st)) := (by first | exact (c_w2 _ _ (by omega)).trans (by go_simp) | go_simp); have l0_4_w2 : w2.frozen? ⟨w.heap.size, 4, none⟩ = false := (by first | exact (f_w2 _ _ (by omega)).trans (by go_simp) | go_simp); clear c_w2 f_w2
    cases p2 : waB ta ts
    · go_wp2_with fail
      go_ret
      exact ⟨ret_bool (by rw [r.out, p1, p2]; rfl), by (repeat' (first | with_reducible exact Below.refl _ _ | with_reducible refine Below.setCell ?_ ?_ _ | with_reducible refine Below.drew ?_ | with_reducible refine below_drewN ?_ _ | with_reducible refine Below.alloc ?_ ?_ _ | with_reducible refine below_step b_w2 ?_ ?_ | with_reducible refine below_step b_w1 ?_ ?_ | omega | (simp; done) | (simp; omega)))⟩
    · have q2 := waB_t p2
      by_cases q4 : fa ≤ ta
      · have p4 : decide (fa ≤ ta) = true := decide_eq_true q4
        have p4' : decide (ta < fa) = false := decide_eq_false (by omega)
        by_cases q5 : fs ≤ ts
        · have p5 : decide (fs ≤ ts) = true := decide_eq_true q5
          have p5' : decide (ts < fs) = false := decide_eq_false (by omega)
          go_wp2_with fail
          refine (sStep_any st _).mono ?_
          rintro _ w3 ⟨rfl, rfl⟩
          cases p3 : inB st 60 324000
          · go_wp2_with fail
            go_ret
            exact ⟨ret_bool (by rw [r.out, p1, p2, p3]; rfl), by (repeat' (first | with_reducible exact Below.refl _ _ | with_reducible refine Below.setCell ?_ ?_ _ | with_reducible refine Below.drew ?_ | with_reducible refine below_drewN ?_ _ | with_reducible refine Below.alloc ?_ ?_ _ | with_reducible refine below_step b_w2 ?_ ?_ | with_reducible refine below_step b_w1 ?_ ?_ | omega | (simp; done) | (simp; omega)))⟩
          · have q3 := inB_iff.1 p3
            have f1 : 0 ≤ ta - fa ∧ ta - fa ≤ 1295999 ∧ 0 ≤ ts - fs ∧ ts - fs ≤ 648000 := by omega
            go_wp2_with fail
            refine (sCount_any fa fs ta ts st _ f1.1 f1.2.1 f1.2.2.1 f1.2.2.2 q3.1).mono ?_
            rintro _ w4 ⟨rfl, b_w4⟩
            go_wp2_with fail
            go_ret
            exact ⟨ret_bool (by rw [r.out, p1, p2, p3, p4, p5]; simp), by (repeat' (first | with_reducible exact Below.refl _ _ | with_reducible refine Below.setCell ?_ ?_ _ | with_reducible refine Below.drew ?_ | with_reducible refine below_drewN ?_ _ | with_reducible refine Below.alloc ?_ ?_ _ | with_reducible refine below_step b_w4 ?_ ?_ | with_reducible refine below_step b_w2 ?_ ?_ | with_reducible refine below_step b_w1 ?_ ?_ | omega | (simp; done) | (simp; omega)))⟩
        · have p5 : decide (fs ≤ ts) = false := decide_eq_false q5
          have p5' : decide (ts < fs) = true := decide_eq_true (by omega)
          clear q5
          go_wp2_with fail
          go_ret
          exact ⟨ret_bool (by rw [r.out, p1, p2, p4, p5]; simp), by (repeat' (first | with_reducible exact Below.refl _ _ | with_reducible refine Below.setCell ?_ ?_ _ | with_reducible refine Below.drew ?_ | with_reducible refine below_drewN ?_ _ | with_reducible refine Below.alloc ?_ ?_ _ | with_reducible refine below_step b_w2 ?_ ?_ | with_reducible refine below_step b_w1 ?_ ?_ | omega | (simp; done) | (simp; omega)))⟩
      · have p4 : decide (fa ≤ ta) = false := decide_eq_false q4
        have p4' : decide (ta < fa) = true := decide_eq_true (by omega)
        clear q4
        go_wp2_with fail
        go_ret
        exact ⟨ret_bool (by rw [r.out, p1, p2, p4]; simp), by (repeat' (first | with_reducible exact Below.refl _ _ | with_reducible refine Below.setCell ?_ ?_ _ | with_reducible refine Below.drew ?_ | with_reducible refine below_drewN ?_ _ | with_reducible refine Below.alloc ?_ ?_ _ | with_reducible refine below_step b_w2 ?_ ?_ | with_reducible refine below_step b_w1 ?_ ?_ | omega | (simp; done) | (simp; omega)))⟩
theorem seB_t {fa fs ta ts st : Int} (h : seB fa fs ta ts st = true) : 0 ≤ ta - fa ∧ ta - fa ≤ 1295999 ∧ 0 ≤ ts - fs ∧ ts - fs ≤ 648000 ∧ 60 ≤ st := by
  unfold seB at h
  simp only [Bool.and_eq_true, decide_eq_true_eq] at h
  obtain ⟨h1, h2, h3, h4, h5, _⟩ := h
  have := waB_t h1
  have := waB_t h2
  have := inB_iff.1 h3
  omega

set_option maxHeartbeats 400000 in
theorem CountWalls_any (fa fs ta ts st : Int) (w : World) :
    Calls Try.prog 13 #[(.agg #[.int .i64 (fa), .int .i64 (fs), .int .i64 (ta), .int .i64 (ts), .int .i64 (st)])] w fun e w' => e = .returned (.tuple #[.int .i64 (if seB fa fs ta ts st = true then ctM fa fs ta ts st else 0), .int .i64 (if seB fa fs ta ts st = true then 0 else 1)]) ∧ Below w.heap.size w w' := by
  cases p : seB fa fs ta ts st
  · go_enter Try.func13, Try.ntmps13
    go_wp2_with (go_at_call 11; refine (IsSearch_any _ _ _ _ _ _).mono ?_; rintro e w1 ⟨rfl, b_w1⟩; obtain ⟨c_w1, f_w1, z_w1⟩ := bfacts b_w1 (by first | (simp; rfl) | rfl); have y0_w1 : w.heap.size < w1.heap.size := (by omega); have k0_0_w1 : w1.cell? ⟨w.heap.size, 0, none⟩ = some (.int .i64 (fa)) := (by first | exact (c_w1 _ _ (by omega)).trans (by go_simp) | go_simp); have l0_0_w1 : w1.frozen? ⟨w.heap.size, 0, none⟩ = false := (by first | exact (f_w1 _ _ (by omega)).trans (by go_simp) | go_simp); have k0_1_w1 : w1.cell? ⟨w.heap.size, 1, none⟩ = some (.int .i64 (fs)) := (by first | exact (c_w1 _ _ (by omega)).trans (by go_simp) | go_simp); have l0_1_w1 : w1.frozen? ⟨w.heap.size, 1, none⟩ = false := (by first | exact (f_w1 _ _ (by omega)).trans (by go_simp) | go_simp); have k0_2_w1 : w1.cell? ⟨w.heap.size, 2, none⟩ = some (.int .i64 (ta)) := (by first | exact (c_w1 _ _ (by omega)).trans (by go_simp) | go_simp); have l0_2_w1 : w1.frozen? ⟨w.heap.size, 2, none⟩ = false := (by first | exact (f_w1 _ _ (by omega)).trans (by go_simp) | go_simp); have k0_3_w1 : w1.cell? ⟨w.heap.size, 3, none⟩ = some (.int .i64 (ts)) := (by first | exact (c_w1 _ _ (by omega)).trans (by go_simp) | go_simp); have l0_3_w1 : w1.frozen? ⟨w.heap.size, 3, none⟩ = false := (by first | exact (f_w1 _ _ (by omega)).trans (by go_simp) | go_simp); have k0_4_w1 : w1.cell? ⟨w.heap.size, 4, none⟩ = some (.int .i64 (st)) := (by first | exact (c_w1 _ _ (by omega)).trans (by go_simp) | go_simp); have l0_4_w1 : w1.frozen? ⟨w.heap.size, 4, none⟩ = false := (by first | exact (f_w1 _ _ (by omega)).trans (by go_simp) | go_simp); clear c_w1 f_w1)
    exact bodyPost_ret (v := .tuple #[.int .i64 0, .int .i64 1]) (by simp [results, Try.results13, go_sem, *]) rfl ⟨rfl, by (repeat' (first | with_reducible exact Below.refl _ _ | with_reducible assumption | with_reducible refine Below.setCell ?_ ?_ _ | with_reducible refine Below.drew ?_ | with_reducible refine below_drewN ?_ _ | with_reducible refine Below.alloc ?_ ?_ _ | with_reducible refine below_step (by assumption) ?_ ?_ | omega | exact Below.size (by assumption) | (simp; done) | (simp; omega)))⟩
  · obtain ⟨f1, f2, f3, f4, f5⟩ := seB_t p
    go_enter Try.func13, Try.ntmps13
    go_wp2_with (first | (go_at_call 11; refine (IsSearch_any _ _ _ _ _ _).mono ?_; rintro e w1 ⟨rfl, b_w1⟩; obtain ⟨c_w1, f_w1, z_w1⟩ := bfacts b_w1 (by first | (simp; rfl) | rfl); have y0_w1 : w.heap.size < w1.heap.size := (by omega); have k0_0_w1 : w1.cell? ⟨w.heap.size, 0, none⟩ = some (.int .i64 (fa)) := (by first | exact (c_w1 _ _ (by omega)).trans (by go_simp) | go_simp); have l0_0_w1 : w1.frozen? ⟨w.heap.size, 0, none⟩ = false := (by first | exact (f_w1 _ _ (by omega)).trans (by go_simp) | go_simp); have k0_1_w1 : w1.cell? ⟨w.heap.size, 1, none⟩ = some (.int .i64 (fs)) := (by first | exact (c_w1 _ _ (by omega)).trans (by go_simp) | go_simp); have l0_1_w1 : w1.frozen? ⟨w.heap.size, 1, none⟩ = false := (by first | exact (f_w1 _ _ (by omega)).trans (by go_simp) | go_simp); have k0_2_w1 : w1.cell? ⟨w.heap.size, 2, none⟩ = some (.int .i64 (ta)) := (by first | exact (c_w1 _ _ (by omega)).trans (by go_simp) | go_simp); have l0_2_w1 : w1.frozen? ⟨w.heap.size, 2, none⟩ = false := (by first | exact (f_w1 _ _ (by omega)).trans (by go_simp) | go_simp); have k0_3_w1 : w1.cell? ⟨w.heap.size, 3, none⟩ = some (.int .i64 (ts)) := (by first | exact (c_w1 _ _ (by omega)).trans (by go_simp) | go_simp); have l0_3_w1 : w1.frozen? ⟨w.heap.size, 3, none⟩ = false := (by first | exact (f_w1 _ _ (by omega)).trans (by go_simp) | go_simp); have k0_4_w1 : w1.cell? ⟨w.heap.size, 4, none⟩ = some (.int .i64 (st)) := (by first | exact (c_w1 _ _ (by omega)).trans (by go_simp) | go_simp); have l0_4_w1 : w1.frozen? ⟨w.heap.size, 4, none⟩ = false := (by first | exact (f_w1 _ _ (by omega)).trans (by go_simp) | go_simp); clear c_w1 f_w1) | (go_at_call 31; refine (count_any fa fs ta ts st _ f1 f2 f3 f4 f5).mono ?_; rintro e w2 ⟨rfl, b_w2⟩; obtain ⟨c_w2, f_w2, z_w2⟩ := bfacts b_w2 (by first | (simp; rfl) | rfl)))
    exact bodyPost_ret (v := .tuple #[.int .i64 (ctM fa fs ta ts st), .int .i64 0]) (by simp [results, Try.results13, go_sem, *]) rfl ⟨rfl, by (repeat' (first | with_reducible exact Below.refl _ _ | with_reducible assumption | with_reducible refine Below.setCell ?_ ?_ _ | with_reducible refine Below.drew ?_ | with_reducible refine below_drewN ?_ _ | with_reducible refine Below.alloc ?_ ?_ _ | with_reducible refine below_step (by assumption) ?_ ?_ | omega | exact Below.size (by assumption) | (simp; done) | (simp; omega)))⟩

set_option maxHeartbeats 400000 in
theorem sCountWalls_any (fa fs ta ts st : Int) (w : World) :
    Calls Try.prog 12 #[(.agg #[.int .i64 (fa), .int .i64 (fs), .int .i64 (ta), .int .i64 (ts), .int .i64 (st)])] w fun e w' => e = .returned (.tuple #[.int .i64 (if seB fa fs ta ts st = true then ctM fa fs ta ts st else 0), .int .i64 (if seB fa fs ta ts st = true then 0 else 1)]) ∧ Below w.heap.size w w' := by
  cases p : seB fa fs ta ts st
  · go_enter Try.func12, Try.ntmps12
    go_wp2_with (go_at_call 9; refine (sIsSearch_any _ _ _ _ _ _).mono ?_; rintro e w1 ⟨rfl, b_w1⟩; obtain ⟨c_w1, f_w1, z_w1⟩ := bfacts b_w1 (by first | (simp; rfl) | rfl); have y0_w1 : w.heap.size < w1.heap.size := (by omega); have k0_0_w1 : w1.cell? ⟨w.heap.size, 0, none⟩ = some (.int .i64 (fa)) := (by first | exact (c_w1 _ _ (by omega)).trans (by go_simp) | go_simp); have l0_0_w1 : w1.frozen? ⟨w.heap.size, 0, none⟩ = false := (by first | exact (f_w1 _ _ (by omega)).trans (by go_simp) | go_simp); have k0_1_w1 : w1.cell? ⟨w.heap.size, 1, none⟩ = some (.int .i64 (fs)) := (by first | exact (c_w1 _ _ (by omega)).trans (by go_simp) | go_simp); have l0_1_w1 : w1.frozen? ⟨w.heap.size, 1, none⟩ = false := (by first | exact (f_w1 _ _ (by omega)).trans (by go_simp) | go_simp); have k0_2_w1 : w1.cell? ⟨w.heap.size, 2, none⟩ = some (.int .i64 (ta)) := (by first | exact (c_w1 _ _ (by omega)).trans (by go_simp) | go_simp); have l0_2_w1 : w1.frozen? ⟨w.heap.size, 2, none⟩ = false := (by first | exact (f_w1 _ _ (by omega)).trans (by go_simp) | go_simp); have k0_3_w1 : w1.cell? ⟨w.heap.size, 3, none⟩ = some (.int .i64 (ts)) := (by first | exact (c_w1 _ _ (by omega)).trans (by go_simp) | go_simp); have l0_3_w1 : w1.frozen? ⟨w.heap.size, 3, none⟩ = false := (by first | exact (f_w1 _ _ (by omega)).trans (by go_simp) | go_simp); have k0_4_w1 : w1.cell? ⟨w.heap.size, 4, none⟩ = some (.int .i64 (st)) := (by first | exact (c_w1 _ _ (by omega)).trans (by go_simp) | go_simp); have l0_4_w1 : w1.frozen? ⟨w.heap.size, 4, none⟩ = false := (by first | exact (f_w1 _ _ (by omega)).trans (by go_simp) | go_simp); clear c_w1 f_w1)
    exact bodyPost_ret (v := .tuple #[.int .i64 0, .int .i64 1]) (by simp [results, Try.results12, go_sem, *]) rfl ⟨rfl, by (repeat' (first | with_reducible exact Below.refl _ _ | with_reducible assumption | with_reducible refine Below.setCell ?_ ?_ _ | with_reducible refine Below.drew ?_ | with_reducible refine below_drewN ?_ _ | with_reducible refine Below.alloc ?_ ?_ _ | with_reducible refine below_step (by assumption) ?_ ?_ | omega | exact Below.size (by assumption) | (simp; done) | (simp; omega)))⟩
  · obtain ⟨f1, f2, f3, f4, f5⟩ := seB_t p
    go_enter Try.func12, Try.ntmps12
    go_wp2_with (first | (go_at_call 9; refine (sIsSearch_any _ _ _ _ _ _).mono ?_; rintro e w1 ⟨rfl, b_w1⟩; obtain ⟨c_w1, f_w1, z_w1⟩ := bfacts b_w1 (by first | (simp; rfl) | rfl); have y0_w1 : w.heap.size < w1.heap.size := (by omega); have k0_0_w1 : w1.cell? ⟨w.heap.size, 0, none⟩ = some (.int .i64 (fa)) := (by first | exact (c_w1 _ _ (by omega)).trans (by go_simp) | go_simp); have l0_0_w1 : w1.frozen? ⟨w.heap.size, 0, none⟩ = false := (by first | exact (f_w1 _ _ (by omega)).trans (by go_simp) | go_simp); have k0_1_w1 : w1.cell? ⟨w.heap.size, 1, none⟩ = some (.int .i64 (fs)) := (by first | exact (c_w1 _ _ (by omega)).trans (by go_simp) | go_simp); have l0_1_w1 : w1.frozen? ⟨w.heap.size, 1, none⟩ = false := (by first | exact (f_w1 _ _ (by omega)).trans (by go_simp) | go_simp); have k0_2_w1 : w1.cell? ⟨w.heap.size, 2, none⟩ = some (.int .i64 (ta)) := (by first | exact (c_w1 _ _ (by omega)).trans (by go_simp) | go_simp); have l0_2_w1 : w1.frozen? ⟨w.heap.size, 2, none⟩ = false := (by first | exact (f_w1 _ _ (by omega)).trans (by go_simp) | go_simp); have k0_3_w1 : w1.cell? ⟨w.heap.size, 3, none⟩ = some (.int .i64 (ts)) := (by first | exact (c_w1 _ _ (by omega)).trans (by go_simp) | go_simp); have l0_3_w1 : w1.frozen? ⟨w.heap.size, 3, none⟩ = false := (by first | exact (f_w1 _ _ (by omega)).trans (by go_simp) | go_simp); have k0_4_w1 : w1.cell? ⟨w.heap.size, 4, none⟩ = some (.int .i64 (st)) := (by first | exact (c_w1 _ _ (by omega)).trans (by go_simp) | go_simp); have l0_4_w1 : w1.frozen? ⟨w.heap.size, 4, none⟩ = false := (by first | exact (f_w1 _ _ (by omega)).trans (by go_simp) | go_simp); clear c_w1 f_w1) | (go_at_call 27; refine (sCount_any fa fs ta ts st _ f1 f2 f3 f4 f5).mono ?_; rintro e w2 ⟨rfl, b_w2⟩; obtain ⟨c_w2, f_w2, z_w2⟩ := bfacts b_w2 (by first | (simp; rfl) | rfl)))
    exact bodyPost_ret (v := .tuple #[.int .i64 (ctM fa fs ta ts st), .int .i64 0]) (by simp [results, Try.results12, go_sem, *]) rfl ⟨rfl, by (repeat' (first | with_reducible exact Below.refl _ _ | with_reducible assumption | with_reducible refine Below.setCell ?_ ?_ _ | with_reducible refine Below.drew ?_ | with_reducible refine below_drewN ?_ _ | with_reducible refine Below.alloc ?_ ?_ _ | with_reducible refine below_step (by assumption) ?_ ?_ | omega | exact Below.size (by assumption) | (simp; done) | (simp; omega)))⟩


end Go.Proofs.Ytfhoogaijamekaa
