/- What the program's ShadowSpeed returns. -/
import Derived.Test.YteooegliepbcnaaGreatR3
import Derived.Test.YteooegliepbcnaaGreatMath6
namespace Go.Proofs.YteooegliepbcnaaGreat
set_option linter.unusedVariables false
set_option linter.unusedSimpArgs false
set_option maxRecDepth 10000
open Go.RowKit


set_option maxHeartbeats 1000000 in
theorem middle_any (p : P2) (w : World) (x0 : -1000000 ≤ p.x.lo) (x1 : p.x.lo ≤ 1000000) (x2 : -1000000 ≤ p.x.hi) (x3 : p.x.hi ≤ 1000000) (y0 : -1000000 ≤ p.y.lo) (y1 : p.y.lo ≤ 1000000) (y2 : -1000000 ≤ p.y.hi) (y3 : p.y.hi ≤ 1000000) :
    Calls Tryz.prog 63 #[(.agg #[.int .i64 (p.x.lo), .int .i64 (p.x.hi), .int .i64 (p.y.lo), .int .i64 (p.y.hi)])] w fun e w' => e = .returned (.agg #[.int .i64 (mdX p), .int .i64 (mdY p)]) ∧ Below w.heap.size w w' := by
  have e1 : IntKind.i64.wrap (p.x.lo + p.x.hi) = p.x.lo + p.x.hi := IntWalk.i64_in _ (by omega)
  have e2 : IntKind.i64.wrap (p.y.lo + p.y.hi) = p.y.lo + p.y.hi := IntWalk.i64_in _ (by omega)
  go_enter Tryz.func63, Tryz.ntmps63
  go_wp2_with fail
  refine wp_region_bl2 17 (fun w' => w'.cell? ⟨w.heap.size, 0, none⟩ = some (.int .i64 (p.x.lo)) ∧ w'.cell? ⟨w.heap.size, 1, none⟩ = some (.int .i64 (p.x.hi)) ∧ w'.cell? ⟨w.heap.size, 2, none⟩ = some (.int .i64 (p.y.lo)) ∧ w'.cell? ⟨w.heap.size, 3, none⟩ = some (.int .i64 (p.y.hi))) (by kernel_rfl) (by kernel_rfl) (by rfl) (fun w' hw' => ?_) (fun hS => ?_)
  focus exact ⟨(hw'.cell (p := ⟨w.heap.size, 0, none⟩) (by first | omega | (simp; done) | (simp; omega))).trans (by go_simp), (hw'.cell (p := ⟨w.heap.size, 1, none⟩) (by first | omega | (simp; done) | (simp; omega))).trans (by go_simp), (hw'.cell (p := ⟨w.heap.size, 2, none⟩) (by first | omega | (simp; done) | (simp; omega))).trans (by go_simp), (hw'.cell (p := ⟨w.heap.size, 3, none⟩) (by first | omega | (simp; done) | (simp; omega))).trans (by go_simp)⟩
  have HS := Lib.hid hS; clear hS
  simp only [List.take_succ_cons, List.take_zero, List.drop_succ_cons, List.drop_zero]
  repeat (first | (refine wpBl_op ?_ ?_ (fun K hK => ?_); (focus rfl); (focus rfl); apply Exists.intro; refine ⟨fun w' hw' => ?_, ?_⟩; (focus (first | (go_simp; first | (go_at_call 103; exact calls_below (floor_pos _ _ _ (by omega) (by omega) (by omega) (by omega)))) | (obtain ⟨kr0, kr1, kr2, kr3⟩ := HS.out w' hw'; go_simp; rfl))); go_simp; refine hK _ ?_; clear hK K) | (refine wpBl_mk ?_ ?_ (fun K hK => ⟨fun g => .pointer (some ⟨g, 0, none⟩), ?_⟩); (focus rfl); (focus rfl); apply Exists.intro; refine ⟨fun w' => ?_, ?_⟩; (focus (go_simp; rfl)); go_simp; refine hK _ _ _ ?_; clear hK K) | (refine wpBl_no ?_ ?_ (fun K hK => ?_); (focus rfl); (focus rfl); go_simp; refine hK _ ?_; clear hK K))
  refine wpBl_end (fun w1 b_w1 => TailW_nil ?_)
  obtain ⟨c_w1, f_w1, z_w1⟩ := bfacts b_w1 (by first | (simp; rfl) | rfl)
  have y0_w1 : w.heap.size + 1 < w1.heap.size := (by omega)
  have yb0_w1 : w.heap.size < w1.heap.size := (by omega)
  have k0_0_w1 : w1.cell? ⟨w.heap.size + 1, 0, none⟩ = some (.int .i64 (0)) := (by first | exact (c_w1 _ _ (by omega)).trans (by go_simp) | go_simp)
  have l0_0_w1 : w1.frozen? ⟨w.heap.size + 1, 0, none⟩ = false := (by first | exact (f_w1 _ _ (by omega)).trans (by go_simp) | go_simp)
  have k0_1_w1 : w1.cell? ⟨w.heap.size + 1, 1, none⟩ = some (.int .i64 (0)) := (by first | exact (c_w1 _ _ (by omega)).trans (by go_simp) | go_simp)
  have l0_1_w1 : w1.frozen? ⟨w.heap.size + 1, 1, none⟩ = false := (by first | exact (f_w1 _ _ (by omega)).trans (by go_simp) | go_simp)
  clear c_w1 f_w1
  clear HS
  go_simp
  go_wp2
  exact bodyPost_ret (v := (.agg #[.int .i64 (mdX p), .int .i64 (mdY p)])) (by simp [results, Tryz.results63, go_sem, mdX, mdY, *]) rfl ⟨rfl, by (repeat' (first | with_reducible exact Below.refl _ _ | with_reducible refine Below.setCell ?_ ?_ _ | with_reducible refine Below.drew ?_ | with_reducible refine below_drewN ?_ _ | with_reducible refine Below.alloc ?_ ?_ _ | with_reducible refine below_step b_w1 ?_ ?_ | omega | (simp; done) | (simp; omega)))⟩

set_option maxHeartbeats 1000000 in
theorem square_any (a b c d : Int) (w : World) (a0 : -1000000 ≤ a) (a1 : a ≤ 1000000) (b0 : -1000000 ≤ b) (b1 : b ≤ 1000000) (c0 : -1000000 ≤ c) (c1 : c ≤ 1000000) (d0 : -1000000 ≤ d) (d1 : d ≤ 1000000) :
    Calls Tryz.prog 64 #[(.agg #[.int .i64 (a), .int .i64 (b)]), (.agg #[.int .i64 (c), .int .i64 (d)])] w fun e w' => e = .returned (.int .i64 (sqM a b c d)) ∧ Below w.heap.size w w' := by
  have s1 := sq_bd (x := a - c) (by omega) (by omega)
  have s2 := sq_bd (x := b - d) (by omega) (by omega)
  go_enter Tryz.func64, Tryz.ntmps64
  go_wp2
  go_ret
  exact ⟨rfl, by (repeat' (first | with_reducible exact Below.refl _ _ | with_reducible assumption | with_reducible refine Below.setCell ?_ ?_ _ | with_reducible refine Below.drew ?_ | with_reducible refine below_drewN ?_ _ | with_reducible refine Below.alloc ?_ ?_ _ | with_reducible refine below_step (by assumption) ?_ ?_ | omega | exact Below.size (by assumption) | (simp; done) | (simp; omega)))⟩

set_option maxHeartbeats 4000000 in
theorem ShadowSpeed_err (lat az sl h n m c : Int) (w : World) (hc : c ≠ 0) (k : dcM (dlB lat az sl h) (dayB n && inB m 0 1438) = c) :
    Calls Tryz.prog 17 #[(.agg #[.int .i64 (lat), .int .i64 (az), .int .i64 (sl), .int .i64 (h)]), .int .i64 n, .int .i64 m] w fun e w' => e = .returned (.tuple #[.int .i64 0, .int .i64 c]) ∧ Below w.heap.size w w' := by
  have di := fun w => dialed_any lat az sl h (dayB n && inB m 0 1438) w
  rw [k] at di
  cases q : dayB n
  · rw [q] at di
    have DI := Lib.hid di; clear di k
    go_enter Tryz.func17, Tryz.ntmps17
    go_wp2_with fail
    refine wp_region_bl2 8 (fun w' => w'.cell? ⟨w.heap.size, 0, none⟩ = some (.int .i64 (lat)) ∧ w'.cell? ⟨w.heap.size, 1, none⟩ = some (.int .i64 (az)) ∧ w'.cell? ⟨w.heap.size, 2, none⟩ = some (.int .i64 (sl)) ∧ w'.cell? ⟨w.heap.size, 3, none⟩ = some (.int .i64 (h))) (by kernel_rfl) (by kernel_rfl) (by rfl) (fun w' hw' => ?_) (fun hS => ?_)
    focus exact ⟨(hw'.cell (p := ⟨w.heap.size, 0, none⟩) (by first | omega | (simp; done) | (simp; omega))).trans (by go_simp), (hw'.cell (p := ⟨w.heap.size, 1, none⟩) (by first | omega | (simp; done) | (simp; omega))).trans (by go_simp), (hw'.cell (p := ⟨w.heap.size, 2, none⟩) (by first | omega | (simp; done) | (simp; omega))).trans (by go_simp), (hw'.cell (p := ⟨w.heap.size, 3, none⟩) (by first | omega | (simp; done) | (simp; omega))).trans (by go_simp)⟩
    have HS := Lib.hid hS; clear hS
    simp only [List.take_succ_cons, List.take_zero, List.drop_succ_cons, List.drop_zero]
    repeat (first | (refine wpBl_op ?_ ?_ (fun K hK => ?_); (focus rfl); (focus rfl); apply Exists.intro; refine ⟨fun w' hw' => ?_, ?_⟩; (focus (first | (go_simp; first | (go_at_call 60; exact isDayNumber_any _ _) | (go_at_call 61; exact calls_below (in_any _ _ _ _)) | (go_at_call 59; exact DI.out _)) | (obtain ⟨kr0, kr1, kr2, kr3⟩ := HS.out w' hw'; go_simp; rfl))); go_simp; refine hK _ ?_; clear hK K) | (refine wpBl_mk ?_ ?_ (fun K hK => ⟨fun g => .pointer (some ⟨g, 0, none⟩), ?_⟩); (focus rfl); (focus rfl); apply Exists.intro; refine ⟨fun w' => ?_, ?_⟩; (focus (go_simp; rfl)); go_simp; refine hK _ _ _ ?_; clear hK K) | (refine wpBl_no ?_ ?_ (fun K hK => ?_); (focus rfl); (focus rfl); go_simp; refine hK _ ?_; clear hK K))
    refine wpBl_end (fun w1 b_w1 => TailW_nil ?_)
    obtain ⟨c_w1, f_w1, z_w1⟩ := bfacts b_w1 (by first | (simp; rfl) | rfl)
    have y0_w1 : w.heap.size < w1.heap.size := (by omega)
    clear HS
    go_simp
    go_wp2
    exact bodyPost_ret (v := .tuple #[.int .i64 0, .int .i64 c]) (by simp [results, Tryz.results17, go_sem, *]) rfl ⟨rfl, by (repeat' (first | with_reducible exact Below.refl _ _ | with_reducible refine Below.setCell ?_ ?_ _ | with_reducible refine Below.drew ?_ | with_reducible refine below_drewN ?_ _ | with_reducible refine Below.alloc ?_ ?_ _ | with_reducible refine below_step b_w1 ?_ ?_ | omega | (simp; done) | (simp; omega)))⟩
  · rw [q, Bool.true_and] at di
    have DI := Lib.hid di; clear di k
    go_enter Tryz.func17, Tryz.ntmps17
    go_wp2_with fail
    refine wp_region_bl2 8 (fun w' => w'.cell? ⟨w.heap.size, 0, none⟩ = some (.int .i64 (lat)) ∧ w'.cell? ⟨w.heap.size, 1, none⟩ = some (.int .i64 (az)) ∧ w'.cell? ⟨w.heap.size, 2, none⟩ = some (.int .i64 (sl)) ∧ w'.cell? ⟨w.heap.size, 3, none⟩ = some (.int .i64 (h))) (by kernel_rfl) (by kernel_rfl) (by rfl) (fun w' hw' => ?_) (fun hS => ?_)
    focus exact ⟨(hw'.cell (p := ⟨w.heap.size, 0, none⟩) (by first | omega | (simp; done) | (simp; omega))).trans (by go_simp), (hw'.cell (p := ⟨w.heap.size, 1, none⟩) (by first | omega | (simp; done) | (simp; omega))).trans (by go_simp), (hw'.cell (p := ⟨w.heap.size, 2, none⟩) (by first | omega | (simp; done) | (simp; omega))).trans (by go_simp), (hw'.cell (p := ⟨w.heap.size, 3, none⟩) (by first | omega | (simp; done) | (simp; omega))).trans (by go_simp)⟩
    have HS := Lib.hid hS; clear hS
    simp only [List.take_succ_cons, List.take_zero, List.drop_succ_cons, List.drop_zero]
    repeat (first | (refine wpBl_op ?_ ?_ (fun K hK => ?_); (focus rfl); (focus rfl); apply Exists.intro; refine ⟨fun w' hw' => ?_, ?_⟩; (focus (first | (go_simp; first | (go_at_call 60; exact isDayNumber_any _ _) | (go_at_call 61; exact calls_below (in_any _ _ _ _)) | (go_at_call 59; exact DI.out _)) | (obtain ⟨kr0, kr1, kr2, kr3⟩ := HS.out w' hw'; go_simp; rfl))); go_simp; refine hK _ ?_; clear hK K) | (refine wpBl_mk ?_ ?_ (fun K hK => ⟨fun g => .pointer (some ⟨g, 0, none⟩), ?_⟩); (focus rfl); (focus rfl); apply Exists.intro; refine ⟨fun w' => ?_, ?_⟩; (focus (go_simp; rfl)); go_simp; refine hK _ _ _ ?_; clear hK K) | (refine wpBl_no ?_ ?_ (fun K hK => ?_); (focus rfl); (focus rfl); go_simp; refine hK _ ?_; clear hK K))
    refine wpBl_end (fun w1 b_w1 => TailW_nil ?_)
    obtain ⟨c_w1, f_w1, z_w1⟩ := bfacts b_w1 (by first | (simp; rfl) | rfl)
    have y0_w1 : w.heap.size < w1.heap.size := (by omega)
    clear HS
    go_simp
    go_wp2
    exact bodyPost_ret (v := .tuple #[.int .i64 0, .int .i64 c]) (by simp [results, Tryz.results17, go_sem, *]) rfl ⟨rfl, by (repeat' (first | with_reducible exact Below.refl _ _ | with_reducible refine Below.setCell ?_ ?_ _ | with_reducible refine Below.drew ?_ | with_reducible refine below_drewN ?_ _ | with_reducible refine Below.alloc ?_ ?_ _ | with_reducible refine below_step b_w1 ?_ ?_ | omega | (simp; done) | (simp; omega)))⟩
set_option maxHeartbeats 4000000 in
theorem ShadowSpeed_walk (lat az sl h n m : Int) (w : World) (d : dlB lat az sl h = true) (q : dayB n = true) (r : inB m 0 1438 = true) (p p' : P2) (b1 b2 : Bool)
    (s1 : ∀ w, Calls Tryz.prog 62 #[(.agg #[.int .i64 (lat), .int .i64 (az), .int .i64 (sl), .int .i64 (h)]), .int .i64 n, .int .i64 m] w fun e w' => e = .returned (.tuple #[(.agg #[.int .i64 (p.x.lo), .int .i64 (p.x.hi), .int .i64 (p.y.lo), .int .i64 (p.y.hi)]), .bool b1]) ∧ Below w.heap.size w w')
    (s2 : ∀ w, Calls Tryz.prog 62 #[(.agg #[.int .i64 (lat), .int .i64 (az), .int .i64 (sl), .int .i64 (h)]), .int .i64 n, .int .i64 (m + 1)] w fun e w' => e = .returned (.tuple #[(.agg #[.int .i64 (p'.x.lo), .int .i64 (p'.x.hi), .int .i64 (p'.y.lo), .int .i64 (p'.y.hi)]), .bool b2]) ∧ Below w.heap.size w w')
    (k1 : b1 = true → plB p = true) (k2 : b2 = true → plB p' = true) :
    Calls Tryz.prog 17 #[(.agg #[.int .i64 (lat), .int .i64 (az), .int .i64 (sl), .int .i64 (h)]), .int .i64 n, .int .i64 m] w fun e w' => e = .returned (.tuple #[.int .i64 (spM b1 b2 (sqM (mdX p) (mdY p) (mdX p') (mdY p'))), .int .i64 (spC b1 b2)]) ∧ Below w.heap.size w w' := by
  have m0 := inB_iff.1 r
  have di := fun w => dialed_any lat az sl h true w
  rw [d] at di
  have DI := Lib.hid di; have S1 := Lib.hid s1; have S2 := Lib.hid s2; clear di s1 s2 d
  cases b1
  · clear k1 k2
    go_enter Tryz.func17, Tryz.ntmps17
    go_wp2_with fail
    refine wp_region_bl2 8 (fun w' => w'.cell? ⟨w.heap.size, 0, none⟩ = some (.int .i64 (lat)) ∧ w'.cell? ⟨w.heap.size, 1, none⟩ = some (.int .i64 (az)) ∧ w'.cell? ⟨w.heap.size, 2, none⟩ = some (.int .i64 (sl)) ∧ w'.cell? ⟨w.heap.size, 3, none⟩ = some (.int .i64 (h))) (by kernel_rfl) (by kernel_rfl) (by rfl) (fun w' hw' => ?_) (fun hS => ?_)
    focus exact ⟨(hw'.cell (p := ⟨w.heap.size, 0, none⟩) (by first | omega | (simp; done) | (simp; omega))).trans (by go_simp), (hw'.cell (p := ⟨w.heap.size, 1, none⟩) (by first | omega | (simp; done) | (simp; omega))).trans (by go_simp), (hw'.cell (p := ⟨w.heap.size, 2, none⟩) (by first | omega | (simp; done) | (simp; omega))).trans (by go_simp), (hw'.cell (p := ⟨w.heap.size, 3, none⟩) (by first | omega | (simp; done) | (simp; omega))).trans (by go_simp)⟩
    have HS := Lib.hid hS; clear hS
    simp only [List.take_succ_cons, List.take_zero, List.drop_succ_cons, List.drop_zero]
    repeat (first | (refine wpBl_op ?_ ?_ (fun K hK => ?_); (focus rfl); (focus rfl); apply Exists.intro; refine ⟨fun w' hw' => ?_, ?_⟩; (focus (first | (go_simp; first | (go_at_call 60; exact isDayNumber_any _ _) | (go_at_call 61; exact calls_below (in_any _ _ _ _)) | (go_at_call 59; exact DI.out _)) | (obtain ⟨kr0, kr1, kr2, kr3⟩ := HS.out w' hw'; go_simp; rfl))); go_simp; refine hK _ ?_; clear hK K) | (refine wpBl_mk ?_ ?_ (fun K hK => ⟨fun g => .pointer (some ⟨g, 0, none⟩), ?_⟩); (focus rfl); (focus rfl); apply Exists.intro; refine ⟨fun w' => ?_, ?_⟩; (focus (go_simp; rfl)); go_simp; refine hK _ _ _ ?_; clear hK K) | (refine wpBl_no ?_ ?_ (fun K hK => ?_); (focus rfl); (focus rfl); go_simp; refine hK _ ?_; clear hK K))
    refine wpBl_end (fun w1 b_w1 => TailW_nil ?_)
    obtain ⟨c_w1, f_w1, z_w1⟩ := bfacts b_w1 (by first | (simp; rfl) | rfl)
    have y0_w1 : w.heap.size < w1.heap.size := (by omega)
    have k0_0_w1 : w1.cell? ⟨w.heap.size, 0, none⟩ = some (.int .i64 (lat)) := (by first | exact (c_w1 _ _ (by omega)).trans (by go_simp) | go_simp)
    have l0_0_w1 : w1.frozen? ⟨w.heap.size, 0, none⟩ = false := (by first | exact (f_w1 _ _ (by omega)).trans (by go_simp) | go_simp)
    have k0_1_w1 : w1.cell? ⟨w.heap.size, 1, none⟩ = some (.int .i64 (az)) := (by first | exact (c_w1 _ _ (by omega)).trans (by go_simp) | go_simp)
    have l0_1_w1 : w1.frozen? ⟨w.heap.size, 1, none⟩ = false := (by first | exact (f_w1 _ _ (by omega)).trans (by go_simp) | go_simp)
    have k0_2_w1 : w1.cell? ⟨w.heap.size, 2, none⟩ = some (.int .i64 (sl)) := (by first | exact (c_w1 _ _ (by omega)).trans (by go_simp) | go_simp)
    have l0_2_w1 : w1.frozen? ⟨w.heap.size, 2, none⟩ = false := (by first | exact (f_w1 _ _ (by omega)).trans (by go_simp) | go_simp)
    have k0_3_w1 : w1.cell? ⟨w.heap.size, 3, none⟩ = some (.int .i64 (h)) := (by first | exact (c_w1 _ _ (by omega)).trans (by go_simp) | go_simp)
    have l0_3_w1 : w1.frozen? ⟨w.heap.size, 3, none⟩ = false := (by first | exact (f_w1 _ _ (by omega)).trans (by go_simp) | go_simp)
    clear c_w1 f_w1
    clear HS
    go_simp
    go_wp2_with fail
    refine (S1.out _).mono ?_
    rintro _ w2 ⟨rfl, b_w2⟩
    obtain ⟨c_w2, f_w2, z_w2⟩ := bfacts b_w2 (by first | (simp; rfl) | rfl); have y0_w2 : w.heap.size < w2.heap.size := (by omega); have k0_0_w2 : w2.cell? ⟨w.heap.size, 0, none⟩ = some (.int .i64 (lat)) := (by first | exact (c_w2 _ _ (by omega)).trans (by go_simp) | go_simp); have l0_0_w2 : w2.frozen? ⟨w.heap.size, 0, none⟩ = false := (by first | exact (f_w2 _ _ (by omega)).trans (by go_simp) | go_simp); have k0_1_w2 : w2.cell? ⟨w.heap.size, 1, none⟩ = some (.int .i64 (az)) := (by first | exact (c_w2 _ _ (by omega)).trans (by go_simp) | go_simp); have l0_1_w2 : w2.frozen? ⟨w.heap.size, 1, none⟩ = false := (by first | exact (f_w2 _ _ (by omega)).trans (by go_simp) | go_simp); have k0_2_w2 : w2.cell? ⟨w.heap.size, 2, none⟩ = some (.int .i64 (sl)) := (by first | exact (c_w2 _ _ (by omega)).trans (by go_simp) | go_simp); have l0_2_w2 : w2.frozen? ⟨w.heap.size, 2, none⟩ = false := (by first | exact (f_w2 _ _ (by omega)).trans (by go_simp) | go_simp); have k0_3_w2 : w2.cell? ⟨w.heap.size, 3, none⟩ = some (.int .i64 (h)) := (by first | exact (c_w2 _ _ (by omega)).trans (by go_simp) | go_simp); have l0_3_w2 : w2.frozen? ⟨w.heap.size, 3, none⟩ = false := (by first | exact (f_w2 _ _ (by omega)).trans (by go_simp) | go_simp); clear c_w2 f_w2
    go_wp2_with fail
    refine (S2.out _).mono ?_
    rintro _ w3 ⟨rfl, b_w3⟩
    obtain ⟨c_w3, f_w3, z_w3⟩ := bfacts b_w3 (by first | (simp; rfl) | rfl); have y0_w3 : w2.heap.size < w3.heap.size := (by omega); have k0_0_w3 : w3.cell? ⟨w2.heap.size, 0, none⟩ = some (.int .i64 (p.x.lo)) := (by first | exact (c_w3 _ _ (by omega)).trans (by go_simp) | go_simp); have l0_0_w3 : w3.frozen? ⟨w2.heap.size, 0, none⟩ = false := (by first | exact (f_w3 _ _ (by omega)).trans (by go_simp) | go_simp); have k0_1_w3 : w3.cell? ⟨w2.heap.size, 1, none⟩ = some (.int .i64 (p.x.hi)) := (by first | exact (c_w3 _ _ (by omega)).trans (by go_simp) | go_simp); have l0_1_w3 : w3.frozen? ⟨w2.heap.size, 1, none⟩ = false := (by first | exact (f_w3 _ _ (by omega)).trans (by go_simp) | go_simp); have k0_2_w3 : w3.cell? ⟨w2.heap.size, 2, none⟩ = some (.int .i64 (p.y.lo)) := (by first | exact (c_w3 _ _ (by omega)).trans (by go_simp) | go_simp); have l0_2_w3 : w3.frozen? ⟨w2.heap.size, 2, none⟩ = false := (by first | exact (f_w3 _ _ (by omega)).trans (by go_simp) | go_simp); have k0_3_w3 : w3.cell? ⟨w2.heap.size, 3, none⟩ = some (.int .i64 (p.y.hi)) := (by first | exact (c_w3 _ _ (by omega)).trans (by go_simp) | go_simp); have l0_3_w3 : w3.frozen? ⟨w2.heap.size, 3, none⟩ = false := (by first | exact (f_w3 _ _ (by omega)).trans (by go_simp) | go_simp); clear c_w3 f_w3
    go_wp2
    exact bodyPost_ret (v := .tuple #[.int .i64 0, .int .i64 4]) (by simp [results, Tryz.results17, go_sem, *]) rfl ⟨rfl, by (repeat' (first | with_reducible exact Below.refl _ _ | with_reducible refine Below.setCell ?_ ?_ _ | with_reducible refine Below.drew ?_ | with_reducible refine below_drewN ?_ _ | with_reducible refine Below.alloc ?_ ?_ _ | with_reducible refine below_step b_w3 ?_ ?_ | with_reducible refine below_step b_w2 ?_ ?_ | with_reducible refine below_step b_w1 ?_ ?_ | omega | (simp; done) | (simp; omega)))⟩
  · cases b2
    · clear k1 k2
      go_enter Tryz.func17, Tryz.ntmps17
      go_wp2_with fail
      refine wp_region_bl2 8 (fun w' => w'.cell? ⟨w.heap.size, 0, none⟩ = some (.int .i64 (lat)) ∧ w'.cell? ⟨w.heap.size, 1, none⟩ = some (.int .i64 (az)) ∧ w'.cell? ⟨w.heap.size, 2, none⟩ = some (.int .i64 (sl)) ∧ w'.cell? ⟨w.heap.size, 3, none⟩ = some (.int .i64 (h))) (by kernel_rfl) (by kernel_rfl) (by rfl) (fun w' hw' => ?_) (fun hS => ?_)
      focus exact ⟨(hw'.cell (p := ⟨w.heap.size, 0, none⟩) (by first | omega | (simp; done) | (simp; omega))).trans (by go_simp), (hw'.cell (p := ⟨w.heap.size, 1, none⟩) (by first | omega | (simp; done) | (simp; omega))).trans (by go_simp), (hw'.cell (p := ⟨w.heap.size, 2, none⟩) (by first | omega | (simp; done) | (simp; omega))).trans (by go_simp), (hw'.cell (p := ⟨w.heap.size, 3, none⟩) (by first | omega | (simp; done) | (simp; omega))).trans (by go_simp)⟩
      have HS := Lib.hid hS; clear hS
      simp only [List.take_succ_cons, List.take_zero, List.drop_succ_cons, List.drop_zero]
      repeat (first | (refine wpBl_op ?_ ?_ (fun K hK => ?_); (focus rfl); (focus rfl); apply Exists.intro; refine ⟨fun w' hw' => ?_, ?_⟩; (focus (first | (go_simp; first | (go_at_call 60; exact isDayNumber_any _ _) | (go_at_call 61; exact calls_below (in_any _ _ _ _)) | (go_at_call 59; exact DI.out _)) | (obtain ⟨kr0, kr1, kr2, kr3⟩ := HS.out w' hw'; go_simp; rfl))); go_simp; refine hK _ ?_; clear hK K) | (refine wpBl_mk ?_ ?_ (fun K hK => ⟨fun g => .pointer (some ⟨g, 0, none⟩), ?_⟩); (focus rfl); (focus rfl); apply Exists.intro; refine ⟨fun w' => ?_, ?_⟩; (focus (go_simp; rfl)); go_simp; refine hK _ _ _ ?_; clear hK K) | (refine wpBl_no ?_ ?_ (fun K hK => ?_); (focus rfl); (focus rfl); go_simp; refine hK _ ?_; clear hK K))
      refine wpBl_end (fun w1 b_w1 => TailW_nil ?_)
      obtain ⟨c_w1, f_w1, z_w1⟩ := bfacts b_w1 (by first | (simp; rfl) | rfl)
      have y0_w1 : w.heap.size < w1.heap.size := (by omega)
      have k0_0_w1 : w1.cell? ⟨w.heap.size, 0, none⟩ = some (.int .i64 (lat)) := (by first | exact (c_w1 _ _ (by omega)).trans (by go_simp) | go_simp)
      have l0_0_w1 : w1.frozen? ⟨w.heap.size, 0, none⟩ = false := (by first | exact (f_w1 _ _ (by omega)).trans (by go_simp) | go_simp)
      have k0_1_w1 : w1.cell? ⟨w.heap.size, 1, none⟩ = some (.int .i64 (az)) := (by first | exact (c_w1 _ _ (by omega)).trans (by go_simp) | go_simp)
      have l0_1_w1 : w1.frozen? ⟨w.heap.size, 1, none⟩ = false := (by first | exact (f_w1 _ _ (by omega)).trans (by go_simp) | go_simp)
      have k0_2_w1 : w1.cell? ⟨w.heap.size, 2, none⟩ = some (.int .i64 (sl)) := (by first | exact (c_w1 _ _ (by omega)).trans (by go_simp) | go_simp)
      have l0_2_w1 : w1.frozen? ⟨w.heap.size, 2, none⟩ = false := (by first | exact (f_w1 _ _ (by omega)).trans (by go_simp) | go_simp)
      have k0_3_w1 : w1.cell? ⟨w.heap.size, 3, none⟩ = some (.int .i64 (h)) := (by first | exact (c_w1 _ _ (by omega)).trans (by go_simp) | go_simp)
      have l0_3_w1 : w1.frozen? ⟨w.heap.size, 3, none⟩ = false := (by first | exact (f_w1 _ _ (by omega)).trans (by go_simp) | go_simp)
      clear c_w1 f_w1
      clear HS
      go_simp
      go_wp2_with fail
      refine (S1.out _).mono ?_
      rintro _ w2 ⟨rfl, b_w2⟩
      obtain ⟨c_w2, f_w2, z_w2⟩ := bfacts b_w2 (by first | (simp; rfl) | rfl); have y0_w2 : w.heap.size < w2.heap.size := (by omega); have k0_0_w2 : w2.cell? ⟨w.heap.size, 0, none⟩ = some (.int .i64 (lat)) := (by first | exact (c_w2 _ _ (by omega)).trans (by go_simp) | go_simp); have l0_0_w2 : w2.frozen? ⟨w.heap.size, 0, none⟩ = false := (by first | exact (f_w2 _ _ (by omega)).trans (by go_simp) | go_simp); have k0_1_w2 : w2.cell? ⟨w.heap.size, 1, none⟩ = some (.int .i64 (az)) := (by first | exact (c_w2 _ _ (by omega)).trans (by go_simp) | go_simp); have l0_1_w2 : w2.frozen? ⟨w.heap.size, 1, none⟩ = false := (by first | exact (f_w2 _ _ (by omega)).trans (by go_simp) | go_simp); have k0_2_w2 : w2.cell? ⟨w.heap.size, 2, none⟩ = some (.int .i64 (sl)) := (by first | exact (c_w2 _ _ (by omega)).trans (by go_simp) | go_simp); have l0_2_w2 : w2.frozen? ⟨w.heap.size, 2, none⟩ = false := (by first | exact (f_w2 _ _ (by omega)).trans (by go_simp) | go_simp); have k0_3_w2 : w2.cell? ⟨w.heap.size, 3, none⟩ = some (.int .i64 (h)) := (by first | exact (c_w2 _ _ (by omega)).trans (by go_simp) | go_simp); have l0_3_w2 : w2.frozen? ⟨w.heap.size, 3, none⟩ = false := (by first | exact (f_w2 _ _ (by omega)).trans (by go_simp) | go_simp); clear c_w2 f_w2
      go_wp2_with fail
      refine (S2.out _).mono ?_
      rintro _ w3 ⟨rfl, b_w3⟩
      obtain ⟨c_w3, f_w3, z_w3⟩ := bfacts b_w3 (by first | (simp; rfl) | rfl); have y0_w3 : w2.heap.size < w3.heap.size := (by omega); have k0_0_w3 : w3.cell? ⟨w2.heap.size, 0, none⟩ = some (.int .i64 (p.x.lo)) := (by first | exact (c_w3 _ _ (by omega)).trans (by go_simp) | go_simp); have l0_0_w3 : w3.frozen? ⟨w2.heap.size, 0, none⟩ = false := (by first | exact (f_w3 _ _ (by omega)).trans (by go_simp) | go_simp); have k0_1_w3 : w3.cell? ⟨w2.heap.size, 1, none⟩ = some (.int .i64 (p.x.hi)) := (by first | exact (c_w3 _ _ (by omega)).trans (by go_simp) | go_simp); have l0_1_w3 : w3.frozen? ⟨w2.heap.size, 1, none⟩ = false := (by first | exact (f_w3 _ _ (by omega)).trans (by go_simp) | go_simp); have k0_2_w3 : w3.cell? ⟨w2.heap.size, 2, none⟩ = some (.int .i64 (p.y.lo)) := (by first | exact (c_w3 _ _ (by omega)).trans (by go_simp) | go_simp); have l0_2_w3 : w3.frozen? ⟨w2.heap.size, 2, none⟩ = false := (by first | exact (f_w3 _ _ (by omega)).trans (by go_simp) | go_simp); have k0_3_w3 : w3.cell? ⟨w2.heap.size, 3, none⟩ = some (.int .i64 (p.y.hi)) := (by first | exact (c_w3 _ _ (by omega)).trans (by go_simp) | go_simp); have l0_3_w3 : w3.frozen? ⟨w2.heap.size, 3, none⟩ = false := (by first | exact (f_w3 _ _ (by omega)).trans (by go_simp) | go_simp); clear c_w3 f_w3
      go_wp2
      exact bodyPost_ret (v := .tuple #[.int .i64 0, .int .i64 4]) (by simp [results, Tryz.results17, go_sem, *]) rfl ⟨rfl, by (repeat' (first | with_reducible exact Below.refl _ _ | with_reducible refine Below.setCell ?_ ?_ _ | with_reducible refine Below.drew ?_ | with_reducible refine below_drewN ?_ _ | with_reducible refine Below.alloc ?_ ?_ _ | with_reducible refine below_step b_w3 ?_ ?_ | with_reducible refine below_step b_w2 ?_ ?_ | with_reducible refine below_step b_w1 ?_ ?_ | omega | (simp; done) | (simp; omega)))⟩
    · have h1 := plB_t (k1 rfl)
      have h2 := plB_t (k2 rfl)
      have g1 := md_bd (k1 rfl)
      have g2 := md_bd (k2 rfl)
      have mi1 := fun w => middle_any p w (by omega) (by omega) (by omega) (by omega) (by omega) (by omega) (by omega) (by omega)
      have mi2 := fun w => middle_any p' w (by omega) (by omega) (by omega) (by omega) (by omega) (by omega) (by omega) (by omega)
      have M1 := Lib.hid mi1; have M2 := Lib.hid mi2; clear mi1 mi2 k1 k2 h1 h2
      go_enter Tryz.func17, Tryz.ntmps17
      go_wp2_with fail
      refine wp_region_bl2 8 (fun w' => w'.cell? ⟨w.heap.size, 0, none⟩ = some (.int .i64 (lat)) ∧ w'.cell? ⟨w.heap.size, 1, none⟩ = some (.int .i64 (az)) ∧ w'.cell? ⟨w.heap.size, 2, none⟩ = some (.int .i64 (sl)) ∧ w'.cell? ⟨w.heap.size, 3, none⟩ = some (.int .i64 (h))) (by kernel_rfl) (by kernel_rfl) (by rfl) (fun w' hw' => ?_) (fun hS => ?_)
      focus exact ⟨(hw'.cell (p := ⟨w.heap.size, 0, none⟩) (by first | omega | (simp; done) | (simp; omega))).trans (by go_simp), (hw'.cell (p := ⟨w.heap.size, 1, none⟩) (by first | omega | (simp; done) | (simp; omega))).trans (by go_simp), (hw'.cell (p := ⟨w.heap.size, 2, none⟩) (by first | omega | (simp; done) | (simp; omega))).trans (by go_simp), (hw'.cell (p := ⟨w.heap.size, 3, none⟩) (by first | omega | (simp; done) | (simp; omega))).trans (by go_simp)⟩
      have HS := Lib.hid hS; clear hS
      simp only [List.take_succ_cons, List.take_zero, List.drop_succ_cons, List.drop_zero]
      repeat (first | (refine wpBl_op ?_ ?_ (fun K hK => ?_); (focus rfl); (focus rfl); apply Exists.intro; refine ⟨fun w' hw' => ?_, ?_⟩; (focus (first | (go_simp; first | (go_at_call 60; exact isDayNumber_any _ _) | (go_at_call 61; exact calls_below (in_any _ _ _ _)) | (go_at_call 59; exact DI.out _)) | (obtain ⟨kr0, kr1, kr2, kr3⟩ := HS.out w' hw'; go_simp; rfl))); go_simp; refine hK _ ?_; clear hK K) | (refine wpBl_mk ?_ ?_ (fun K hK => ⟨fun g => .pointer (some ⟨g, 0, none⟩), ?_⟩); (focus rfl); (focus rfl); apply Exists.intro; refine ⟨fun w' => ?_, ?_⟩; (focus (go_simp; rfl)); go_simp; refine hK _ _ _ ?_; clear hK K) | (refine wpBl_no ?_ ?_ (fun K hK => ?_); (focus rfl); (focus rfl); go_simp; refine hK _ ?_; clear hK K))
      refine wpBl_end (fun w1 b_w1 => TailW_nil ?_)
      obtain ⟨c_w1, f_w1, z_w1⟩ := bfacts b_w1 (by first | (simp; rfl) | rfl)
      have y0_w1 : w.heap.size < w1.heap.size := (by omega)
      have k0_0_w1 : w1.cell? ⟨w.heap.size, 0, none⟩ = some (.int .i64 (lat)) := (by first | exact (c_w1 _ _ (by omega)).trans (by go_simp) | go_simp)
      have l0_0_w1 : w1.frozen? ⟨w.heap.size, 0, none⟩ = false := (by first | exact (f_w1 _ _ (by omega)).trans (by go_simp) | go_simp)
      have k0_1_w1 : w1.cell? ⟨w.heap.size, 1, none⟩ = some (.int .i64 (az)) := (by first | exact (c_w1 _ _ (by omega)).trans (by go_simp) | go_simp)
      have l0_1_w1 : w1.frozen? ⟨w.heap.size, 1, none⟩ = false := (by first | exact (f_w1 _ _ (by omega)).trans (by go_simp) | go_simp)
      have k0_2_w1 : w1.cell? ⟨w.heap.size, 2, none⟩ = some (.int .i64 (sl)) := (by first | exact (c_w1 _ _ (by omega)).trans (by go_simp) | go_simp)
      have l0_2_w1 : w1.frozen? ⟨w.heap.size, 2, none⟩ = false := (by first | exact (f_w1 _ _ (by omega)).trans (by go_simp) | go_simp)
      have k0_3_w1 : w1.cell? ⟨w.heap.size, 3, none⟩ = some (.int .i64 (h)) := (by first | exact (c_w1 _ _ (by omega)).trans (by go_simp) | go_simp)
      have l0_3_w1 : w1.frozen? ⟨w.heap.size, 3, none⟩ = false := (by first | exact (f_w1 _ _ (by omega)).trans (by go_simp) | go_simp)
      clear c_w1 f_w1
      clear HS
      go_simp
      go_wp2_with fail
      refine (S1.out _).mono ?_
      rintro _ w2 ⟨rfl, b_w2⟩
      obtain ⟨c_w2, f_w2, z_w2⟩ := bfacts b_w2 (by first | (simp; rfl) | rfl); have y0_w2 : w.heap.size < w2.heap.size := (by omega); have k0_0_w2 : w2.cell? ⟨w.heap.size, 0, none⟩ = some (.int .i64 (lat)) := (by first | exact (c_w2 _ _ (by omega)).trans (by go_simp) | go_simp); have l0_0_w2 : w2.frozen? ⟨w.heap.size, 0, none⟩ = false := (by first | exact (f_w2 _ _ (by omega)).trans (by go_simp) | go_simp); have k0_1_w2 : w2.cell? ⟨w.heap.size, 1, none⟩ = some (.int .i64 (az)) := (by first | exact (c_w2 _ _ (by omega)).trans (by go_simp) | go_simp); have l0_1_w2 : w2.frozen? ⟨w.heap.size, 1, none⟩ = false := (by first | exact (f_w2 _ _ (by omega)).trans (by go_simp) | go_simp); have k0_2_w2 : w2.cell? ⟨w.heap.size, 2, none⟩ = some (.int .i64 (sl)) := (by first | exact (c_w2 _ _ (by omega)).trans (by go_simp) | go_simp); have l0_2_w2 : w2.frozen? ⟨w.heap.size, 2, none⟩ = false := (by first | exact (f_w2 _ _ (by omega)).trans (by go_simp) | go_simp); have k0_3_w2 : w2.cell? ⟨w.heap.size, 3, none⟩ = some (.int .i64 (h)) := (by first | exact (c_w2 _ _ (by omega)).trans (by go_simp) | go_simp); have l0_3_w2 : w2.frozen? ⟨w.heap.size, 3, none⟩ = false := (by first | exact (f_w2 _ _ (by omega)).trans (by go_simp) | go_simp); clear c_w2 f_w2
      go_wp2_with fail
      refine (S2.out _).mono ?_
      rintro _ w3 ⟨rfl, b_w3⟩
      obtain ⟨c_w3, f_w3, z_w3⟩ := bfacts b_w3 (by first | (simp; rfl) | rfl); have y0_w3 : w2.heap.size < w3.heap.size := (by omega); have k0_0_w3 : w3.cell? ⟨w2.heap.size, 0, none⟩ = some (.int .i64 (p.x.lo)) := (by first | exact (c_w3 _ _ (by omega)).trans (by go_simp) | go_simp); have l0_0_w3 : w3.frozen? ⟨w2.heap.size, 0, none⟩ = false := (by first | exact (f_w3 _ _ (by omega)).trans (by go_simp) | go_simp); have k0_1_w3 : w3.cell? ⟨w2.heap.size, 1, none⟩ = some (.int .i64 (p.x.hi)) := (by first | exact (c_w3 _ _ (by omega)).trans (by go_simp) | go_simp); have l0_1_w3 : w3.frozen? ⟨w2.heap.size, 1, none⟩ = false := (by first | exact (f_w3 _ _ (by omega)).trans (by go_simp) | go_simp); have k0_2_w3 : w3.cell? ⟨w2.heap.size, 2, none⟩ = some (.int .i64 (p.y.lo)) := (by first | exact (c_w3 _ _ (by omega)).trans (by go_simp) | go_simp); have l0_2_w3 : w3.frozen? ⟨w2.heap.size, 2, none⟩ = false := (by first | exact (f_w3 _ _ (by omega)).trans (by go_simp) | go_simp); have k0_3_w3 : w3.cell? ⟨w2.heap.size, 3, none⟩ = some (.int .i64 (p.y.hi)) := (by first | exact (c_w3 _ _ (by omega)).trans (by go_simp) | go_simp); have l0_3_w3 : w3.frozen? ⟨w2.heap.size, 3, none⟩ = false := (by first | exact (f_w3 _ _ (by omega)).trans (by go_simp) | go_simp); clear c_w3 f_w3
      go_wp2_with fail
      refine wp_region_bl2 5 (fun w' => w'.cell? ⟨w2.heap.size, 0, none⟩ = some (.int .i64 (p.x.lo)) ∧ w'.cell? ⟨w2.heap.size, 1, none⟩ = some (.int .i64 (p.x.hi)) ∧ w'.cell? ⟨w2.heap.size, 2, none⟩ = some (.int .i64 (p.y.lo)) ∧ w'.cell? ⟨w2.heap.size, 3, none⟩ = some (.int .i64 (p.y.hi)) ∧ w'.cell? ⟨w3.heap.size, 0, none⟩ = some (.int .i64 (p'.x.lo)) ∧ w'.cell? ⟨w3.heap.size, 1, none⟩ = some (.int .i64 (p'.x.hi)) ∧ w'.cell? ⟨w3.heap.size, 2, none⟩ = some (.int .i64 (p'.y.lo)) ∧ w'.cell? ⟨w3.heap.size, 3, none⟩ = some (.int .i64 (p'.y.hi))) (by kernel_rfl) (by kernel_rfl) (by rfl) (fun w' hw' => ?_) (fun hS => ?_)
      focus exact ⟨(hw'.cell (p := ⟨w2.heap.size, 0, none⟩) (by first | omega | (simp; done) | (simp; omega))).trans (by go_simp), (hw'.cell (p := ⟨w2.heap.size, 1, none⟩) (by first | omega | (simp; done) | (simp; omega))).trans (by go_simp), (hw'.cell (p := ⟨w2.heap.size, 2, none⟩) (by first | omega | (simp; done) | (simp; omega))).trans (by go_simp), (hw'.cell (p := ⟨w2.heap.size, 3, none⟩) (by first | omega | (simp; done) | (simp; omega))).trans (by go_simp), (hw'.cell (p := ⟨w3.heap.size, 0, none⟩) (by first | omega | (simp; done) | (simp; omega))).trans (by go_simp), (hw'.cell (p := ⟨w3.heap.size, 1, none⟩) (by first | omega | (simp; done) | (simp; omega))).trans (by go_simp), (hw'.cell (p := ⟨w3.heap.size, 2, none⟩) (by first | omega | (simp; done) | (simp; omega))).trans (by go_simp), (hw'.cell (p := ⟨w3.heap.size, 3, none⟩) (by first | omega | (simp; done) | (simp; omega))).trans (by go_simp)⟩
      have HS := Lib.hid hS; clear hS
      simp only [List.take_succ_cons, List.take_zero, List.drop_succ_cons, List.drop_zero]
      repeat (first | (refine wpBl_op ?_ ?_ (fun K hK => ?_); (focus rfl); (focus rfl); apply Exists.intro; refine ⟨fun w' hw' => ?_, ?_⟩; (focus (first | (go_simp; first | (go_at_call 63; first | with_reducible exact M1.out _ | with_reducible exact M2.out _) | (go_at_call 64; exact square_any _ _ _ _ _ (by omega) (by omega) (by omega) (by omega) (by omega) (by omega) (by omega) (by omega))) | (obtain ⟨kr0, kr1, kr2, kr3, kr4, kr5, kr6, kr7⟩ := HS.out w' hw'; go_simp; rfl))); go_simp; refine hK _ ?_; clear hK K) | (refine wpBl_mk ?_ ?_ (fun K hK => ⟨fun g => .pointer (some ⟨g, 0, none⟩), ?_⟩); (focus rfl); (focus rfl); apply Exists.intro; refine ⟨fun w' => ?_, ?_⟩; (focus (go_simp; rfl)); go_simp; refine hK _ _ _ ?_; clear hK K) | (refine wpBl_no ?_ ?_ (fun K hK => ?_); (focus rfl); (focus rfl); go_simp; refine hK _ ?_; clear hK K))
      refine wpBl_end (fun w4 b_w4 => TailW_nil ?_)
      obtain ⟨c_w4, f_w4, z_w4⟩ := bfacts b_w4 (by first | (simp; rfl) | rfl)
      have y0_w4 : w.heap.size < w4.heap.size := (by omega)
      clear HS
      go_simp
      go_wp2
      exact bodyPost_ret (v := .tuple #[.int .i64 (sqM (mdX p) (mdY p) (mdX p') (mdY p')), .int .i64 0]) (by simp [results, Tryz.results17, go_sem, *]) rfl ⟨rfl, by (repeat' (first | with_reducible exact Below.refl _ _ | with_reducible refine Below.setCell ?_ ?_ _ | with_reducible refine Below.drew ?_ | with_reducible refine below_drewN ?_ _ | with_reducible refine Below.alloc ?_ ?_ _ | with_reducible refine below_step b_w4 ?_ ?_ | with_reducible refine below_step b_w3 ?_ ?_ | with_reducible refine below_step b_w2 ?_ ?_ | with_reducible refine below_step b_w1 ?_ ?_ | omega | (simp; done) | (simp; omega)))⟩


end Go.Proofs.YteooegliepbcnaaGreat
