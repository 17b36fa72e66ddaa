/- What the reference's functions on intervals, arcs and vectors return. -/
import Derived.Test.YteooegliepbcnaaGreatS
import Derived.Test.YteooegliepbcnaaGreatMath2
import Derived.Test.YteooegliepbcnaaGreatReg
namespace Go.Proofs.YteooegliepbcnaaGreat
set_option linter.unusedVariables false
set_option linter.unusedSimpArgs false
set_option maxRecDepth 10000
open Go.RowKit


set_option maxHeartbeats 400000 in
theorem sIsInterval_any (a b : Int) (w : World) :
    Calls Tryz.prog 166 #[(.agg #[.int .i64 (a), .int .i64 (b)])] w fun e w' => e = .returned (.bool (ivB a b)) ∧ Below w.heap.size w w' := by
  rcases inB_cases a (-1000000000000) 1000000000000 with ⟨p1, p2, p⟩ | ⟨p1, p⟩
  · rcases inB_cases b (-1000000000000) 1000000000000 with ⟨q1, q2, q⟩ | ⟨q1, q⟩
    · by_cases t : a ≤ b
      · have t' : decide (a ≤ b) = true := by simpa using t
        have r := ivB_t p1 t q2
        go_enter Tryz.func166, Tryz.ntmps166
        go_wp2_with (go_at_call 190; refine (sIs_any _ _).mono ?_; rintro e w' ⟨rfl, rfl⟩)
        go_ret
        exact ⟨ret_bool r.symm, by (repeat' (first | with_reducible exact Below.refl _ _ | with_reducible assumption | with_reducible refine Below.setCell ?_ ?_ _ | with_reducible refine Below.drew ?_ | with_reducible refine below_drewN ?_ _ | with_reducible refine Below.alloc ?_ ?_ _ | with_reducible refine below_step (by assumption) ?_ ?_ | omega | exact Below.size (by assumption) | (simp; done) | (simp; omega)))⟩
      · have t' : decide (a ≤ b) = false := by simpa using t
        have r : ivB a b = false := ivB_f (by omega)
        go_enter Tryz.func166, Tryz.ntmps166
        go_wp2_with (go_at_call 190; refine (sIs_any _ _).mono ?_; rintro e w' ⟨rfl, rfl⟩)
        go_ret
        exact ⟨ret_bool r.symm, by (repeat' (first | with_reducible exact Below.refl _ _ | with_reducible assumption | with_reducible refine Below.setCell ?_ ?_ _ | with_reducible refine Below.drew ?_ | with_reducible refine below_drewN ?_ _ | with_reducible refine Below.alloc ?_ ?_ _ | with_reducible refine below_step (by assumption) ?_ ?_ | omega | exact Below.size (by assumption) | (simp; done) | (simp; omega)))⟩
    · have r : ivB a b = false := ivB_f (by omega)
      clear q1
      go_enter Tryz.func166, Tryz.ntmps166
      go_wp2_with (go_at_call 190; refine (sIs_any _ _).mono ?_; rintro e w' ⟨rfl, rfl⟩)
      go_ret
      exact ⟨ret_bool r.symm, by (repeat' (first | with_reducible exact Below.refl _ _ | with_reducible assumption | with_reducible refine Below.setCell ?_ ?_ _ | with_reducible refine Below.drew ?_ | with_reducible refine below_drewN ?_ _ | with_reducible refine Below.alloc ?_ ?_ _ | with_reducible refine below_step (by assumption) ?_ ?_ | omega | exact Below.size (by assumption) | (simp; done) | (simp; omega)))⟩
  · have r : ivB a b = false := by
      rcases p1 with h | h
      · exact ivB_f (by omega)
      · by_cases k : b ≤ 1000000000000
        · exact ivB_f (by omega)
        · exact ivB_f (by omega)
    clear p1
    go_enter Tryz.func166, Tryz.ntmps166
    go_wp2_with (go_at_call 190; refine (sIs_any _ _).mono ?_; rintro e w' ⟨rfl, rfl⟩)
    go_ret
    exact ⟨ret_bool r.symm, by (repeat' (first | with_reducible exact Below.refl _ _ | with_reducible assumption | with_reducible refine Below.setCell ?_ ?_ _ | with_reducible refine Below.drew ?_ | with_reducible refine below_drewN ?_ _ | with_reducible refine Below.alloc ?_ ?_ _ | with_reducible refine below_step (by assumption) ?_ ?_ | omega | exact Below.size (by assumption) | (simp; done) | (simp; omega)))⟩

set_option maxHeartbeats 400000 in
theorem sMeet_any (a b c d : Int) (w : World) :
    Calls Tryz.prog 167 #[(.agg #[.int .i64 (a), .int .i64 (b)]), (.agg #[.int .i64 (c), .int .i64 (d)])] w fun e w' => e = .returned (.tuple #[(.agg #[.int .i64 (max a c), .int .i64 (min b d)]), .bool (decide (max a c ≤ min b d))]) ∧ Below w.heap.size w w' := by
  go_enter Tryz.func167, Tryz.ntmps167
  go_wp2_with fail
  go_region_held3 (fun w' => w'.cell? ⟨w.heap.size + 1 + 1 + 1, 0, none⟩ = some (.int .i64 (max a c)) ∧ w'.cell? ⟨w.heap.size + 1 + 1 + 1, 1, none⟩ = some (.int .i64 (min b d))) (go_simp) (fail)
  go_wp2
  exact bodyPost_ret (v := .tuple #[(.agg #[.int .i64 (max a c), .int .i64 (min b d)]), .bool (decide (max a c ≤ min b d))]) (by simp [results, Tryz.results167, go_sem, *]) rfl ⟨rfl, by (repeat' (first | with_reducible exact Below.refl _ _ | with_reducible assumption | with_reducible refine Below.setCell ?_ ?_ _ | with_reducible refine Below.drew ?_ | with_reducible refine below_drewN ?_ _ | with_reducible refine Below.alloc ?_ ?_ _ | with_reducible refine below_step (by assumption) ?_ ?_ | omega | exact Below.size (by assumption) | (simp; done) | (simp; omega)))⟩

set_option maxHeartbeats 1000000 in
theorem sArcSineRange_any (a b : Int) (w : World) :
    Calls Tryz.prog 128 #[(.agg #[.int .i64 (a), .int .i64 (b)])] w fun e w' => e = .returned (.tuple #[(.agg #[.int .i64 ((asI a b).lo), .int .i64 ((asI a b).hi)]), .int .i64 (asC a b)]) ∧ Below w.heap.size w w' := by
  rcases ivB_cases a b with ⟨p1, p2, p3, p⟩ | ⟨p1, p⟩
  · by_cases t : a > 1000000 ∨ b < -1000000
    · have r1 : asI a b = ⟨0, 0⟩ := by unfold asI; rw [if_pos p, if_pos t]
      have r2 : asC a b = 4 := by unfold asC; rw [if_pos p, if_pos t]
      have t' : decide (max a (-1000000) ≤ min b 1000000) = false := decide_eq_false (by omega)
      have R1 := Lib.hid r1; have R2 := Lib.hid r2; clear r1 r2 t
      go_enter Tryz.func128, Tryz.ntmps128
      go_wp2_with (first | (go_at_call 166; refine (sIsInterval_any _ _ _).mono ?_; rintro e w1 ⟨rfl, b_w1⟩; obtain ⟨c_w1, f_w1, z_w1⟩ := bfacts b_w1 (by first | (simp; rfl) | rfl); have y0_w1 : w.heap.size < w1.heap.size := (by omega); have y1_w1 : w.heap.size + 1 < w1.heap.size := (by omega); have k0_0_w1 : w1.cell? ⟨w.heap.size, 0, none⟩ = some (.int .i64 (a)) := (by first | exact (c_w1 _ _ (by omega)).trans (by go_simp) | go_simp); have l0_0_w1 : w1.frozen? ⟨w.heap.size, 0, none⟩ = false := (by first | exact (f_w1 _ _ (by omega)).trans (by go_simp) | go_simp); have k0_1_w1 : w1.cell? ⟨w.heap.size, 1, none⟩ = some (.int .i64 (b)) := (by first | exact (c_w1 _ _ (by omega)).trans (by go_simp) | go_simp); have l0_1_w1 : w1.frozen? ⟨w.heap.size, 1, none⟩ = false := (by first | exact (f_w1 _ _ (by omega)).trans (by go_simp) | go_simp); have k1_0_w1 : w1.cell? ⟨w.heap.size + 1, 0, none⟩ = some (.int .i64 (0)) := (by first | exact (c_w1 _ _ (by omega)).trans (by go_simp) | go_simp); have l1_0_w1 : w1.frozen? ⟨w.heap.size + 1, 0, none⟩ = false := (by first | exact (f_w1 _ _ (by omega)).trans (by go_simp) | go_simp); have k1_1_w1 : w1.cell? ⟨w.heap.size + 1, 1, none⟩ = some (.int .i64 (0)) := (by first | exact (c_w1 _ _ (by omega)).trans (by go_simp) | go_simp); have l1_1_w1 : w1.frozen? ⟨w.heap.size + 1, 1, none⟩ = false := (by first | exact (f_w1 _ _ (by omega)).trans (by go_simp) | go_simp); clear c_w1 f_w1) | (go_at_call 167; refine (sMeet_any _ _ _ _ _).mono ?_; rintro e w2 ⟨rfl, b_w2⟩; obtain ⟨c_w2, f_w2, z_w2⟩ := bfacts b_w2 (by first | (simp; rfl) | rfl); have y0_w2 : w.heap.size < w2.heap.size := (by omega); have y1_w2 : w.heap.size + 1 < w2.heap.size := (by omega); have k0_0_w2 : w2.cell? ⟨w.heap.size, 0, none⟩ = some (.int .i64 (a)) := (by first | exact (c_w2 _ _ (by omega)).trans (by go_simp) | go_simp); have l0_0_w2 : w2.frozen? ⟨w.heap.size, 0, none⟩ = false := (by first | exact (f_w2 _ _ (by omega)).trans (by go_simp) | go_simp); have k0_1_w2 : w2.cell? ⟨w.heap.size, 1, none⟩ = some (.int .i64 (b)) := (by first | exact (c_w2 _ _ (by omega)).trans (by go_simp) | go_simp); have l0_1_w2 : w2.frozen? ⟨w.heap.size, 1, none⟩ = false := (by first | exact (f_w2 _ _ (by omega)).trans (by go_simp) | go_simp); have k1_0_w2 : w2.cell? ⟨w.heap.size + 1, 0, none⟩ = some (.int .i64 (0)) := (by first | exact (c_w2 _ _ (by omega)).trans (by go_simp) | go_simp); have l1_0_w2 : w2.frozen? ⟨w.heap.size + 1, 0, none⟩ = false := (by first | exact (f_w2 _ _ (by omega)).trans (by go_simp) | go_simp); have k1_1_w2 : w2.cell? ⟨w.heap.size + 1, 1, none⟩ = some (.int .i64 (0)) := (by first | exact (c_w2 _ _ (by omega)).trans (by go_simp) | go_simp); have l1_1_w2 : w2.frozen? ⟨w.heap.size + 1, 1, none⟩ = false := (by first | exact (f_w2 _ _ (by omega)).trans (by go_simp) | go_simp); clear c_w2 f_w2))
      exact bodyPost_ret (v := .tuple #[(.agg #[.int .i64 (0), .int .i64 (0)]), .int .i64 4]) (by simp [results, Tryz.results128, go_sem, *]) rfl ⟨by rw [R1.out, R2.out], by (repeat' (first | with_reducible exact Below.refl _ _ | with_reducible assumption | with_reducible refine Below.setCell ?_ ?_ _ | with_reducible refine Below.drew ?_ | with_reducible refine below_drewN ?_ _ | with_reducible refine Below.alloc ?_ ?_ _ | with_reducible refine below_step (by assumption) ?_ ?_ | omega | exact Below.size (by assumption) | (simp; done) | (simp; omega)))⟩
    · have r1 : asI a b = ⟨aL (max a (-1000000)), aH (min b 1000000)⟩ := by unfold asI; rw [if_pos p, if_neg t]
      have r2 : asC a b = 0 := by unfold asC; rw [if_pos p, if_neg t]
      have t' : decide (max a (-1000000) ≤ min b 1000000) = true := decide_eq_true (by omega)
      have R1 := Lib.hid r1; have R2 := Lib.hid r2; clear r1 r2 t
      go_enter Tryz.func128, Tryz.ntmps128
      go_wp2_with (first | (go_at_call 166; refine (sIsInterval_any _ _ _).mono ?_; rintro e w1 ⟨rfl, b_w1⟩; obtain ⟨c_w1, f_w1, z_w1⟩ := bfacts b_w1 (by first | (simp; rfl) | rfl); have y0_w1 : w.heap.size < w1.heap.size := (by omega); have y1_w1 : w.heap.size + 1 < w1.heap.size := (by omega); have k0_0_w1 : w1.cell? ⟨w.heap.size, 0, none⟩ = some (.int .i64 (a)) := (by first | exact (c_w1 _ _ (by omega)).trans (by go_simp) | go_simp); have l0_0_w1 : w1.frozen? ⟨w.heap.size, 0, none⟩ = false := (by first | exact (f_w1 _ _ (by omega)).trans (by go_simp) | go_simp); have k0_1_w1 : w1.cell? ⟨w.heap.size, 1, none⟩ = some (.int .i64 (b)) := (by first | exact (c_w1 _ _ (by omega)).trans (by go_simp) | go_simp); have l0_1_w1 : w1.frozen? ⟨w.heap.size, 1, none⟩ = false := (by first | exact (f_w1 _ _ (by omega)).trans (by go_simp) | go_simp); have k1_0_w1 : w1.cell? ⟨w.heap.size + 1, 0, none⟩ = some (.int .i64 (0)) := (by first | exact (c_w1 _ _ (by omega)).trans (by go_simp) | go_simp); have l1_0_w1 : w1.frozen? ⟨w.heap.size + 1, 0, none⟩ = false := (by first | exact (f_w1 _ _ (by omega)).trans (by go_simp) | go_simp); have k1_1_w1 : w1.cell? ⟨w.heap.size + 1, 1, none⟩ = some (.int .i64 (0)) := (by first | exact (c_w1 _ _ (by omega)).trans (by go_simp) | go_simp); have l1_1_w1 : w1.frozen? ⟨w.heap.size + 1, 1, none⟩ = false := (by first | exact (f_w1 _ _ (by omega)).trans (by go_simp) | go_simp); clear c_w1 f_w1) | (go_at_call 167; refine (sMeet_any _ _ _ _ _).mono ?_; rintro e w2 ⟨rfl, b_w2⟩; obtain ⟨c_w2, f_w2, z_w2⟩ := bfacts b_w2 (by first | (simp; rfl) | rfl); have y0_w2 : w.heap.size < w2.heap.size := (by omega); have y1_w2 : w.heap.size + 1 < w2.heap.size := (by omega); have k0_0_w2 : w2.cell? ⟨w.heap.size, 0, none⟩ = some (.int .i64 (a)) := (by first | exact (c_w2 _ _ (by omega)).trans (by go_simp) | go_simp); have l0_0_w2 : w2.frozen? ⟨w.heap.size, 0, none⟩ = false := (by first | exact (f_w2 _ _ (by omega)).trans (by go_simp) | go_simp); have k0_1_w2 : w2.cell? ⟨w.heap.size, 1, none⟩ = some (.int .i64 (b)) := (by first | exact (c_w2 _ _ (by omega)).trans (by go_simp) | go_simp); have l0_1_w2 : w2.frozen? ⟨w.heap.size, 1, none⟩ = false := (by first | exact (f_w2 _ _ (by omega)).trans (by go_simp) | go_simp); have k1_0_w2 : w2.cell? ⟨w.heap.size + 1, 0, none⟩ = some (.int .i64 (0)) := (by first | exact (c_w2 _ _ (by omega)).trans (by go_simp) | go_simp); have l1_0_w2 : w2.frozen? ⟨w.heap.size + 1, 0, none⟩ = false := (by first | exact (f_w2 _ _ (by omega)).trans (by go_simp) | go_simp); have k1_1_w2 : w2.cell? ⟨w.heap.size + 1, 1, none⟩ = some (.int .i64 (0)) := (by first | exact (c_w2 _ _ (by omega)).trans (by go_simp) | go_simp); have l1_1_w2 : w2.frozen? ⟨w.heap.size + 1, 1, none⟩ = false := (by first | exact (f_w2 _ _ (by omega)).trans (by go_simp) | go_simp); clear c_w2 f_w2))
      refine wp_region_bl2 9 (fun w' => w'.cell? ⟨w.heap.size + 1, 0, none⟩ = some (.int .i64 (0)) ∧ w'.cell? ⟨w.heap.size + 1, 1, none⟩ = some (.int .i64 (0)) ∧ w'.cell? ⟨w2.heap.size, 0, none⟩ = some (.int .i64 (max a (-1000000))) ∧ w'.cell? ⟨w2.heap.size, 1, none⟩ = some (.int .i64 (min b 1000000))) (by kernel_rfl) (by kernel_rfl) (by rfl) (fun w' hw' => ?_) (fun hS => ?_)
      focus exact ⟨(hw'.cell (p := ⟨w.heap.size + 1, 0, none⟩) (by first | omega | (simp; done) | (simp; omega))).trans (by go_simp), (hw'.cell (p := ⟨w.heap.size + 1, 1, none⟩) (by first | omega | (simp; done) | (simp; omega))).trans (by go_simp), (hw'.cell (p := ⟨w2.heap.size, 0, none⟩) (by first | omega | (simp; done) | (simp; omega))).trans (by go_simp), (hw'.cell (p := ⟨w2.heap.size, 1, none⟩) (by first | omega | (simp; done) | (simp; omega))).trans (by go_simp)⟩
      have HS := Lib.hid hS; clear hS
      simp only [List.take_succ_cons, List.take_zero, List.drop_succ_cons, List.drop_zero]
      repeat (first | (refine wpBl_op ?_ ?_ (fun K hK => ?_); (focus rfl); (focus rfl); apply Exists.intro; refine ⟨fun w' hw' => ?_, ?_⟩; (focus (first | (go_simp; first | (go_at_call 168; exact sArc_any _ _)) | (obtain ⟨kr0, kr1, kr2, kr3⟩ := HS.out w' hw'; go_simp; rfl))); go_simp; refine hK _ ?_; clear hK K) | (refine wpBl_mk ?_ ?_ (fun K hK => ⟨fun g => .pointer (some ⟨g, 0, none⟩), ?_⟩); (focus rfl); (focus rfl); apply Exists.intro; refine ⟨fun w' => ?_, ?_⟩; (focus (go_simp; rfl)); go_simp; refine hK _ _ _ ?_; clear hK K) | (refine wpBl_no ?_ ?_ (fun K hK => ?_); (focus rfl); (focus rfl); go_simp; refine hK _ ?_; clear hK K))
      refine wpBl_end (fun w3 b_w3 => TailW_nil ?_)
      obtain ⟨c_w3, f_w3, z_w3⟩ := bfacts b_w3 (by first | (simp; rfl) | rfl)
      have y0_w3 : w.heap.size + 1 < w3.heap.size := (by omega)
      have yb0_w3 : w.heap.size < w3.heap.size := (by omega)
      have k0_0_w3 : w3.cell? ⟨w.heap.size + 1, 0, none⟩ = some (.int .i64 (0)) := (by first | exact (c_w3 _ _ (by omega)).trans (by go_simp) | go_simp)
      have l0_0_w3 : w3.frozen? ⟨w.heap.size + 1, 0, none⟩ = false := (by first | exact (f_w3 _ _ (by omega)).trans (by go_simp) | go_simp)
      have k0_1_w3 : w3.cell? ⟨w.heap.size + 1, 1, none⟩ = some (.int .i64 (0)) := (by first | exact (c_w3 _ _ (by omega)).trans (by go_simp) | go_simp)
      have l0_1_w3 : w3.frozen? ⟨w.heap.size + 1, 1, none⟩ = false := (by first | exact (f_w3 _ _ (by omega)).trans (by go_simp) | go_simp)
      clear c_w3 f_w3
      clear HS
      go_simp
      go_wp2
      exact bodyPost_ret (v := .tuple #[(.agg #[.int .i64 (aL (max a (-1000000))), .int .i64 (aH (min b 1000000))]), .int .i64 0]) (by simp [results, Tryz.results128, go_sem, *]) rfl ⟨by rw [R1.out, R2.out], by (repeat' (first | with_reducible exact Below.refl _ _ | with_reducible assumption | with_reducible refine Below.setCell ?_ ?_ _ | with_reducible refine Below.drew ?_ | with_reducible refine below_drewN ?_ _ | with_reducible refine Below.alloc ?_ ?_ _ | with_reducible refine below_step (by assumption) ?_ ?_ | omega | exact Below.size (by assumption) | (simp; done) | (simp; omega)))⟩
  · have r1 : asI a b = ⟨0, 0⟩ := by unfold asI; rw [if_neg (by rw [p]; simp)]
    have r2 : asC a b = 1 := by unfold asC; rw [if_neg (by rw [p]; simp)]
    clear p1
    go_enter Tryz.func128, Tryz.ntmps128
    go_wp2_with (go_at_call 166; refine (sIsInterval_any _ _ _).mono ?_; rintro e w1 ⟨rfl, b_w1⟩; obtain ⟨c_w1, f_w1, z_w1⟩ := bfacts b_w1 (by first | (simp; rfl) | rfl); have y0_w1 : w.heap.size < w1.heap.size := (by omega); have y1_w1 : w.heap.size + 1 < w1.heap.size := (by omega); have k0_0_w1 : w1.cell? ⟨w.heap.size, 0, none⟩ = some (.int .i64 (a)) := (by first | exact (c_w1 _ _ (by omega)).trans (by go_simp) | go_simp); have l0_0_w1 : w1.frozen? ⟨w.heap.size, 0, none⟩ = false := (by first | exact (f_w1 _ _ (by omega)).trans (by go_simp) | go_simp); have k0_1_w1 : w1.cell? ⟨w.heap.size, 1, none⟩ = some (.int .i64 (b)) := (by first | exact (c_w1 _ _ (by omega)).trans (by go_simp) | go_simp); have l0_1_w1 : w1.frozen? ⟨w.heap.size, 1, none⟩ = false := (by first | exact (f_w1 _ _ (by omega)).trans (by go_simp) | go_simp); have k1_0_w1 : w1.cell? ⟨w.heap.size + 1, 0, none⟩ = some (.int .i64 (0)) := (by first | exact (c_w1 _ _ (by omega)).trans (by go_simp) | go_simp); have l1_0_w1 : w1.frozen? ⟨w.heap.size + 1, 0, none⟩ = false := (by first | exact (f_w1 _ _ (by omega)).trans (by go_simp) | go_simp); have k1_1_w1 : w1.cell? ⟨w.heap.size + 1, 1, none⟩ = some (.int .i64 (0)) := (by first | exact (c_w1 _ _ (by omega)).trans (by go_simp) | go_simp); have l1_1_w1 : w1.frozen? ⟨w.heap.size + 1, 1, none⟩ = false := (by first | exact (f_w1 _ _ (by omega)).trans (by go_simp) | go_simp); clear c_w1 f_w1)
    exact bodyPost_ret (v := .tuple #[(.agg #[.int .i64 (0), .int .i64 (0)]), .int .i64 1]) (by simp [results, Tryz.results128, go_sem, *]) rfl ⟨by rw [r1, r2], by (repeat' (first | with_reducible exact Below.refl _ _ | with_reducible assumption | with_reducible refine Below.setCell ?_ ?_ _ | with_reducible refine Below.drew ?_ | with_reducible refine below_drewN ?_ _ | with_reducible refine Below.alloc ?_ ?_ _ | with_reducible refine below_step (by assumption) ?_ ?_ | omega | exact Below.size (by assumption) | (simp; done) | (simp; omega)))⟩


end Go.Proofs.YteooegliepbcnaaGreat
