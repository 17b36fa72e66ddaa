/- What LitMinutes returns, on both sides. -/
import Derived.Test.YtikmepppnechaaaDir
import Derived.Test.YtikmepppnechaaaF
import Derived.Test.YtikmepppnechaaaC7
import Derived.Test.YtikmepppnechaaaS7
namespace Go.Proofs.Ytikmepppnechaaa
set_option linter.unusedVariables false
set_option linter.unusedSimpArgs false
open Go.RowKit


set_option maxHeartbeats 1000000 in
theorem LitMinutes_no1 (az sl lat n : Int) (w : World) (p : waB az sl = false) :
    Calls Try.prog 30 #[(.agg #[.int .i64 (az), .int .i64 (sl)]), .int .i64 lat, .int .i64 n] w fun e w' => e = .returned (.tuple #[.int .i64 0, .int .i64 1]) ∧ Below w.heap.size w w' := by
  go_enter Try.func30, Try.ntmps30
  go_wp2_with fail
  refine (IsWall_any az sl _).mono ?_
  rintro _ w1 ⟨rfl, b_w1⟩
  obtain ⟨c_w1, f_w1, z_w1⟩ := bfacts b_w1 (by first | (simp; rfl) | rfl)
  have y0_w1 : w.heap.size < w1.heap.size := (by omega)
  have k0_0_w1 : w1.cell? ⟨w.heap.size, 0, none⟩ = some (.int .i64 (az)) := (by first | exact (c_w1 _ _ (by omega)).trans (by go_simp) | go_simp)
  have l0_0_w1 : w1.frozen? ⟨w.heap.size, 0, none⟩ = false := (by first | exact (f_w1 _ _ (by omega)).trans (by go_simp) | go_simp)
  have k0_1_w1 : w1.cell? ⟨w.heap.size, 1, none⟩ = some (.int .i64 (sl)) := (by first | exact (c_w1 _ _ (by omega)).trans (by go_simp) | go_simp)
  have l0_1_w1 : w1.frozen? ⟨w.heap.size, 1, none⟩ = false := (by first | exact (f_w1 _ _ (by omega)).trans (by go_simp) | go_simp)
  clear c_w1 f_w1
  go_wp2
  exact bodyPost_ret (v := .tuple #[.int .i64 0, .int .i64 1]) (by simp [results, Try.results30, go_sem, *]) rfl ⟨rfl, by (repeat' (first | with_reducible exact Below.refl _ _ | with_reducible refine Below.setCell ?_ ?_ _ | with_reducible refine Below.drew ?_ | with_reducible refine below_drewN ?_ _ | with_reducible refine Below.alloc ?_ ?_ _ | with_reducible refine below_step b_w1 ?_ ?_ | omega | (simp; done) | (simp; omega)))⟩
set_option maxHeartbeats 1000000 in
theorem LitMinutes_no2 (az sl lat n : Int) (w : World) (p : waB az sl = true) (q : (inB lat (-324000) 324000 && dayB n) = false) :
    Calls Try.prog 30 #[(.agg #[.int .i64 (az), .int .i64 (sl)]), .int .i64 lat, .int .i64 n] w fun e w' => e = .returned (.tuple #[.int .i64 0, .int .i64 2]) ∧ Below w.heap.size w w' := by
  cases p1 : inB lat (-324000) 324000
  · clear q
    go_enter Try.func30, Try.ntmps30
    go_wp2_with fail
    refine (IsWall_any az sl _).mono ?_
    rintro _ w1 ⟨rfl, b_w1⟩
    obtain ⟨c_w1, f_w1, z_w1⟩ := bfacts b_w1 (by first | (simp; rfl) | rfl)
    have y0_w1 : w.heap.size < w1.heap.size := (by omega)
    have k0_0_w1 : w1.cell? ⟨w.heap.size, 0, none⟩ = some (.int .i64 (az)) := (by first | exact (c_w1 _ _ (by omega)).trans (by go_simp) | go_simp)
    have l0_0_w1 : w1.frozen? ⟨w.heap.size, 0, none⟩ = false := (by first | exact (f_w1 _ _ (by omega)).trans (by go_simp) | go_simp)
    have k0_1_w1 : w1.cell? ⟨w.heap.size, 1, none⟩ = some (.int .i64 (sl)) := (by first | exact (c_w1 _ _ (by omega)).trans (by go_simp) | go_simp)
    have l0_1_w1 : w1.frozen? ⟨w.heap.size, 1, none⟩ = false := (by first | exact (f_w1 _ _ (by omega)).trans (by go_simp) | go_simp)
    clear c_w1 f_w1
    go_wp2_with (go_at_call 50; refine (isLatitude_any _ _).mono ?_; rintro e w' ⟨rfl, rfl⟩)
    exact bodyPost_ret (v := .tuple #[.int .i64 0, .int .i64 2]) (by simp [results, Try.results30, go_sem, *]) rfl ⟨rfl, by (repeat' (first | with_reducible exact Below.refl _ _ | with_reducible refine Below.setCell ?_ ?_ _ | with_reducible refine Below.drew ?_ | with_reducible refine below_drewN ?_ _ | with_reducible refine Below.alloc ?_ ?_ _ | with_reducible refine below_step b_w1 ?_ ?_ | omega | (simp; done) | (simp; omega)))⟩
  · have p2 : dayB n = false := by rw [p1] at q; simpa using q
    clear q
    go_enter Try.func30, Try.ntmps30
    go_wp2_with fail
    refine (IsWall_any az sl _).mono ?_
    rintro _ w1 ⟨rfl, b_w1⟩
    obtain ⟨c_w1, f_w1, z_w1⟩ := bfacts b_w1 (by first | (simp; rfl) | rfl)
    have y0_w1 : w.heap.size < w1.heap.size := (by omega)
    have k0_0_w1 : w1.cell? ⟨w.heap.size, 0, none⟩ = some (.int .i64 (az)) := (by first | exact (c_w1 _ _ (by omega)).trans (by go_simp) | go_simp)
    have l0_0_w1 : w1.frozen? ⟨w.heap.size, 0, none⟩ = false := (by first | exact (f_w1 _ _ (by omega)).trans (by go_simp) | go_simp)
    have k0_1_w1 : w1.cell? ⟨w.heap.size, 1, none⟩ = some (.int .i64 (sl)) := (by first | exact (c_w1 _ _ (by omega)).trans (by go_simp) | go_simp)
    have l0_1_w1 : w1.frozen? ⟨w.heap.size, 1, none⟩ = false := (by first | exact (f_w1 _ _ (by omega)).trans (by go_simp) | go_simp)
    clear c_w1 f_w1
    go_wp2_with (go_at_call 50; refine (isLatitude_any _ _).mono ?_; rintro e w' ⟨rfl, rfl⟩)
    refine (isDayNumber_any n _).mono ?_
    rintro _ w2 ⟨rfl, b_w2⟩
    obtain ⟨c_w2, f_w2, z_w2⟩ := bfacts b_w2 (by first | (simp; rfl) | rfl)
    have y0_w2 : w.heap.size < w2.heap.size := (by omega)
    have k0_0_w2 : w2.cell? ⟨w.heap.size, 0, none⟩ = some (.int .i64 (az)) := (by first | exact (c_w2 _ _ (by omega)).trans (by go_simp) | go_simp)
    have l0_0_w2 : w2.frozen? ⟨w.heap.size, 0, none⟩ = false := (by first | exact (f_w2 _ _ (by omega)).trans (by go_simp) | go_simp)
    have k0_1_w2 : w2.cell? ⟨w.heap.size, 1, none⟩ = some (.int .i64 (sl)) := (by first | exact (c_w2 _ _ (by omega)).trans (by go_simp) | go_simp)
    have l0_1_w2 : w2.frozen? ⟨w.heap.size, 1, none⟩ = false := (by first | exact (f_w2 _ _ (by omega)).trans (by go_simp) | go_simp)
    clear c_w2 f_w2
    go_wp2
    exact bodyPost_ret (v := .tuple #[.int .i64 0, .int .i64 2]) (by simp [results, Try.results30, go_sem, *]) rfl ⟨rfl, by (repeat' (first | with_reducible exact Below.refl _ _ | with_reducible refine Below.setCell ?_ ?_ _ | with_reducible refine Below.drew ?_ | with_reducible refine below_drewN ?_ _ | with_reducible refine Below.alloc ?_ ?_ _ | with_reducible refine below_step b_w2 ?_ ?_ | with_reducible refine below_step b_w1 ?_ ?_ | omega | (simp; done) | (simp; omega)))⟩
set_option maxRecDepth 100000 in
set_option maxHeartbeats 8000000 in
theorem LitMinutes_yes (az sl lat n : Int) (w : World) (p : waB az sl = true) (q : (inB lat (-324000) 324000 && dayB n) = true) :
    Calls Try.prog 30 #[(.agg #[.int .i64 (az), .int .i64 (sl)]), .int .i64 lat, .int .i64 n] w fun e w' => e = .returned (.tuple #[.int .i64 (liN (fun i => liB az sl lat (deI n).lo (deI n).hi i) 1440), .int .i64 0]) ∧ Below w.heap.size w w' := by
  obtain ⟨z0, z1, y0, y1⟩ := waB_t p
  obtain ⟨p1, p2⟩ : inB lat (-324000) 324000 = true ∧ dayB n = true := by simpa [Bool.and_eq_true] using q
  have l0 := inB_iff.1 p1
  obtain ⟨n0, n1⟩ := dayB_t p2
  have dd := deI_bd n
  obtain ⟨S, nv, R, Rh, ax, su, dt, hR⟩ : ∃ (S : Nat → V3) (nv : V3) (R Rh : Nat → Int), (nv = toV az sl) ∧
      (∀ (i : Nat) w, i < 1440 → Calls Try.prog 53 #[.int .i64 lat, (.agg #[.int .i64 ((deI n).lo), .int .i64 ((deI n).hi)]), .int .i64 i] w fun e w' => e = .returned (.agg #[.int .i64 ((S i).x.lo), .int .i64 ((S i).x.hi), .int .i64 ((S i).y.lo), .int .i64 ((S i).y.hi), .int .i64 ((S i).z.lo), .int .i64 ((S i).z.hi)]) ∧ Below w.heap.size w w') ∧
      (∀ (i : Nat) w, Calls Try.prog 70 #[(.agg #[.int .i64 ((S i).x.lo), .int .i64 ((S i).x.hi), .int .i64 ((S i).y.lo), .int .i64 ((S i).y.hi), .int .i64 ((S i).z.lo), .int .i64 ((S i).z.hi)]), (.agg #[.int .i64 (nv.x.lo), .int .i64 (nv.x.hi), .int .i64 (nv.y.lo), .int .i64 (nv.y.hi), .int .i64 (nv.z.lo), .int .i64 (nv.z.hi)])] w fun e w' => e = .returned (.agg #[.int .i64 (R i), .int .i64 (Rh i)]) ∧ Below w.heap.size w w') ∧
      (fun i : Nat => liB az sl lat (deI n).lo (deI n).hi i) = (fun i : Nat => decide ((S i).z.lo > 0 ∧ R i > 0)) :=
    ⟨fun i => suV lat (deI n).lo (deI n).hi i, toV az sl, fun i => (doV (suV lat (deI n).lo (deI n).hi i) (toV az sl)).lo, fun i => (doV (suV lat (deI n).lo (deI n).hi i) (toV az sl)).hi, rfl,
      fun i w hi => sunAt_any lat (deI n).lo (deI n).hi i w l0.1 l0.2 (by omega) (by omega) (by omega) (by omega) (by omega) (by omega),
      fun i w => by
        obtain ⟨a1, a2, a3, a4, a5, a6, a7, a8, a9⟩ := suV_bd lat (deI n).lo (deI n).hi i
        obtain ⟨c1, c2, c3, c4, c5, c6, c7, c8, c9⟩ := toV_bd az sl
        exact dot_any (suV lat (deI n).lo (deI n).hi i) (toV az sl) w (by omega) (by omega) (by omega) (by omega) (by omega) (by omega) (by omega) (by omega) (by omega) (by omega) (by omega) (by omega) (by omega) (by omega) (by omega) (by omega) (by omega) (by omega) (by omega) (by omega) (by omega) (by omega) (by omega) (by omega), rfl⟩
  rw [hR]
  have axs := fun w => axes_any az sl w (by omega) (by omega) (by omega) (by omega)
  rw [← ax] at axs
  generalize toV (az - 324000) 0 = m0 at axs
  generalize toV az (sl + 324000) = m1 at axs
  have AX := Lib.hid axs; have SU := Lib.hid su; have DT := Lib.hid dt; clear axs su dt hR ax
  obtain ⟨P, hP⟩ : ∃ P : Nat → Bool, (fun i : Nat => decide ((S i).z.lo > 0 ∧ R i > 0)) = P := ⟨_, rfl⟩
  rw [hP]
  have PT : ∀ i, P i = decide ((S i).z.lo > 0 ∧ R i > 0) := fun i => by rw [← hP]
  have PT := Lib.hid PT; clear hP q
  obtain ⟨N, hN⟩ : ∃ N : Nat, N = 1440 := ⟨_, rfl⟩
  rw [← hN]
  have HN := Lib.hid hN; clear hN
  go_enter Try.func30, Try.ntmps30
  go_wp2_with fail
  refine (IsWall_any az sl _).mono ?_
  rintro _ w1 ⟨rfl, b_w1⟩
  obtain ⟨c_w1, f_w1, z_w1⟩ := bfacts b_w1 (by first | (simp; rfl) | rfl)
  have y0_w1 : w.heap.size < w1.heap.size := (by omega)
  have k0_0_w1 : w1.cell? ⟨w.heap.size, 0, none⟩ = some (.int .i64 (az)) := (by first | exact (c_w1 _ _ (by omega)).trans (by go_simp) | go_simp)
  have l0_0_w1 : w1.frozen? ⟨w.heap.size, 0, none⟩ = false := (by first | exact (f_w1 _ _ (by omega)).trans (by go_simp) | go_simp)
  have k0_1_w1 : w1.cell? ⟨w.heap.size, 1, none⟩ = some (.int .i64 (sl)) := (by first | exact (c_w1 _ _ (by omega)).trans (by go_simp) | go_simp)
  have l0_1_w1 : w1.frozen? ⟨w.heap.size, 1, none⟩ = false := (by first | exact (f_w1 _ _ (by omega)).trans (by go_simp) | go_simp)
  clear c_w1 f_w1
  go_wp2_with (go_at_call 50; refine (isLatitude_any _ _).mono ?_; rintro e w' ⟨rfl, rfl⟩)
  refine (isDayNumber_any n _).mono ?_
  rintro _ w2 ⟨rfl, b_w2⟩
  obtain ⟨c_w2, f_w2, z_w2⟩ := bfacts b_w2 (by first | (simp; rfl) | rfl)
  have y0_w2 : w.heap.size < w2.heap.size := (by omega)
  have k0_0_w2 : w2.cell? ⟨w.heap.size, 0, none⟩ = some (.int .i64 (az)) := (by first | exact (c_w2 _ _ (by omega)).trans (by go_simp) | go_simp)
  have l0_0_w2 : w2.frozen? ⟨w.heap.size, 0, none⟩ = false := (by first | exact (f_w2 _ _ (by omega)).trans (by go_simp) | go_simp)
  have k0_1_w2 : w2.cell? ⟨w.heap.size, 1, none⟩ = some (.int .i64 (sl)) := (by first | exact (c_w2 _ _ (by omega)).trans (by go_simp) | go_simp)
  have l0_1_w2 : w2.frozen? ⟨w.heap.size, 1, none⟩ = false := (by first | exact (f_w2 _ _ (by omega)).trans (by go_simp) | go_simp)
  clear c_w2 f_w2
  go_wp2_with fail
  refine wp_region_bx2 10 (fun w' => w'.cell? ⟨w.heap.size, 0, none⟩ = some (.int .i64 (az)) ∧ w'.cell? ⟨w.heap.size, 1, none⟩ = some (.int .i64 (sl))) (by kernel_rfl) (by kernel_rfl) (by rfl) (fun w' hw' => ?_) (fun hS => ?_)
  focus exact ⟨(hw'.cell (p := ⟨w.heap.size, 0, none⟩) (by first | omega | (simp; done) | (simp; omega))).trans (by go_simp), (hw'.cell (p := ⟨w.heap.size, 1, none⟩) (by first | omega | (simp; done) | (simp; omega))).trans (by go_simp)⟩
  have HS := Lib.hid hS; clear hS
  simp only [List.take_succ_cons, List.take_zero, List.drop_succ_cons, List.drop_zero]
  repeat (first | (refine wpBx_op ?_ (fun K hK => ?_); (focus exact fun _ => rfl); apply Exists.intro; refine ⟨fun γ w' hw' => ?_, ?_⟩; (focus (first | (go_simp; first | (go_at_call 46; exact declination_any _ _ n0 n1)) | (obtain ⟨kr0, kr1⟩ := HS.out w' hw'; go_simp; rfl))); go_simp; refine hK _ ?_; clear hK K) | (refine wpBx_mk (fun g => .slice (some ⟨g, 0, none⟩) 3 3) ?_ (fun K hK => ?_); (focus exact fun _ => rfl); apply Exists.intro; refine ⟨fun γ w' hw' => ?_, ?_⟩; (focus (go_simp; (go_at_call 69; exact AX.out _))); go_simp; refine hK _ _ ?_; clear hK K) | (refine wpBx_mk (fun g => .pointer (some ⟨g, 0, none⟩)) ?_ (fun K hK => ?_); (focus exact fun _ => rfl); apply Exists.intro; refine ⟨fun γ w' hw' => ?_, ?_⟩; (focus (go_simp; first | rfl | exact ⟨rfl, rfl⟩ | trivial)); go_simp; refine hK _ _ ?_; clear hK K) | (apply wpBx_dep 3; (case hm => (repeat (first | exact List.mem_append_right _ (List.mem_singleton.2 rfl) | refine List.mem_append_left _ ?_))); (case hd => kernel_rfl); (case hp => decide); (case hw => (focus exact fun _ => rfl)); intro K hK; apply Exists.intro; refine ⟨fun γ g w' hg hw' hx => ?_, ?_⟩; (focus (obtain ⟨cx, fx, zx⟩ := blk_facts hx; clear hx; go_simp; rfl)); go_simp; refine hK _ ?_; clear hK K) | (apply wpBx_put 6; (case hm => (repeat (first | exact List.mem_append_right _ (List.mem_singleton.2 rfl) | refine List.mem_append_left _ ?_))); (case hd => kernel_rfl); (case hp => decide); (case hq => decide); (case hw => (focus exact fun _ => rfl)); intro K hK; apply Exists.intro; refine ⟨fun γ g w' hg hw' hx => ?_, ?_⟩; (focus (have HX := Lib.hid hx; obtain ⟨cx, fx, zx⟩ := blk_facts hx; clear hx; go_simp; (repeat apply PutW.set); exact PutW.refl HX.out)); go_simp; refine hK _ _ ?_; clear hK K; (try simp only [List.map_append, List.map_cons, List.map_nil, List.map, Nat.reduceEqDiff, if_true, if_false, ite_true, ite_false, reduceIte, List.nil_append])) | (apply wpBx_put 7; (case hm => (repeat (first | exact List.mem_append_right _ (List.mem_singleton.2 rfl) | refine List.mem_append_left _ ?_))); (case hd => kernel_rfl); (case hp => decide); (case hq => decide); (case hw => (focus exact fun _ => rfl)); intro K hK; apply Exists.intro; refine ⟨fun γ g w' hg hw' hx => ?_, ?_⟩; (focus (have HX := Lib.hid hx; obtain ⟨cx, fx, zx⟩ := blk_facts hx; clear hx; go_simp; (repeat apply PutW.set); exact PutW.refl HX.out)); go_simp; refine hK _ _ ?_; clear hK K; (try simp only [List.map_append, List.map_cons, List.map_nil, List.map, Nat.reduceEqDiff, if_true, if_false, ite_true, ite_false, reduceIte, List.nil_append])) | (refine wpBx_no ?_ (fun K hK => ?_); (focus exact fun _ => rfl); go_simp; refine hK _ ?_; clear hK K))
  refine wpBx_end ?_
  intro γ w3 b_w3
  refine TailX_cons (fun g0_w3 e0_w3 h0_w3 k0_w3 n0_w3 => TailX_cons (fun g1_w3 e1_w3 h1_w3 k1_w3 n1_w3 => TailX_cons (fun g2_w3 e2_w3 h2_w3 k2_w3 n2_w3 => TailX_nil ?_)))
  (try simp only [Nat.zero_add, Nat.reduceAdd] at e0_w3)
  (try simp only [e0_w3])
  clear e0_w3
  (try simp only [Nat.zero_add, Nat.reduceAdd] at e1_w3)
  (try simp only [e1_w3])
  clear e1_w3
  (try simp only [Nat.zero_add, Nat.reduceAdd] at e2_w3)
  (try simp only [e2_w3])
  clear e2_w3
  clear γ
  obtain ⟨c_w3, f_w3, z_w3⟩ := bfacts b_w3 (by first | (simp; rfl) | rfl)
  have hk0_w3 := Lib.hid k0_w3
  obtain ⟨cg0_w3, fg0_w3, zg0_w3⟩ := blk_facts k0_w3
  (try simp at h0_w3)
  (try simp at n0_w3)
  clear k0_w3
  have hk1_w3 := Lib.hid k1_w3
  obtain ⟨cg1_w3, fg1_w3, zg1_w3⟩ := blk_facts k1_w3
  (try simp at h1_w3)
  (try simp at n1_w3)
  clear k1_w3
  have hk2_w3 := Lib.hid k2_w3
  obtain ⟨cg2_w3, fg2_w3, zg2_w3⟩ := blk_facts k2_w3
  (try simp at h2_w3)
  (try simp at n2_w3)
  clear k2_w3
  have y0_w3 : w.heap.size < w3.heap.size := (by omega)
  have y1_w3 : g1_w3 < w3.heap.size := (by omega)
  have y2_w3 : g2_w3 < w3.heap.size := (by omega)
  have k1_0_w3 : w3.cell? ⟨g1_w3, 0, none⟩ = some (.int .i64 ((deI n).lo)) := (by first | exact (c_w3 _ _ (by omega)).trans (by go_simp) | go_simp)
  have l1_0_w3 : w3.frozen? ⟨g1_w3, 0, none⟩ = false := (by first | exact (f_w3 _ _ (by omega)).trans (by go_simp) | go_simp)
  have k1_1_w3 : w3.cell? ⟨g1_w3, 1, none⟩ = some (.int .i64 ((deI n).hi)) := (by first | exact (c_w3 _ _ (by omega)).trans (by go_simp) | go_simp)
  have l1_1_w3 : w3.frozen? ⟨g1_w3, 1, none⟩ = false := (by first | exact (f_w3 _ _ (by omega)).trans (by go_simp) | go_simp)
  have k2_0_w3 : w3.cell? ⟨g2_w3, 0, none⟩ = some (.int .i64 (nv.x.lo)) := (by first | exact (c_w3 _ _ (by omega)).trans (by go_simp) | go_simp)
  have l2_0_w3 : w3.frozen? ⟨g2_w3, 0, none⟩ = false := (by first | exact (f_w3 _ _ (by omega)).trans (by go_simp) | go_simp)
  have k2_1_w3 : w3.cell? ⟨g2_w3, 1, none⟩ = some (.int .i64 (nv.x.hi)) := (by first | exact (c_w3 _ _ (by omega)).trans (by go_simp) | go_simp)
  have l2_1_w3 : w3.frozen? ⟨g2_w3, 1, none⟩ = false := (by first | exact (f_w3 _ _ (by omega)).trans (by go_simp) | go_simp)
  have k2_2_w3 : w3.cell? ⟨g2_w3, 2, none⟩ = some (.int .i64 (nv.y.lo)) := (by first | exact (c_w3 _ _ (by omega)).trans (by go_simp) | go_simp)
  have l2_2_w3 : w3.frozen? ⟨g2_w3, 2, none⟩ = false := (by first | exact (f_w3 _ _ (by omega)).trans (by go_simp) | go_simp)
  have k2_3_w3 : w3.cell? ⟨g2_w3, 3, none⟩ = some (.int .i64 (nv.y.hi)) := (by first | exact (c_w3 _ _ (by omega)).trans (by go_simp) | go_simp)
  have l2_3_w3 : w3.frozen? ⟨g2_w3, 3, none⟩ = false := (by first | exact (f_w3 _ _ (by omega)).trans (by go_simp) | go_simp)
  have k2_4_w3 : w3.cell? ⟨g2_w3, 4, none⟩ = some (.int .i64 (nv.z.lo)) := (by first | exact (c_w3 _ _ (by omega)).trans (by go_simp) | go_simp)
  have l2_4_w3 : w3.frozen? ⟨g2_w3, 4, none⟩ = false := (by first | exact (f_w3 _ _ (by omega)).trans (by go_simp) | go_simp)
  have k2_5_w3 : w3.cell? ⟨g2_w3, 5, none⟩ = some (.int .i64 (nv.z.hi)) := (by first | exact (c_w3 _ _ (by omega)).trans (by go_simp) | go_simp)
  have l2_5_w3 : w3.frozen? ⟨g2_w3, 5, none⟩ = false := (by first | exact (f_w3 _ _ (by omega)).trans (by go_simp) | go_simp)
  clear c_w3 f_w3 cg0_w3 fg0_w3 cg1_w3 fg1_w3 cg2_w3 fg2_w3
  clear HS
  go_simp
  have B3 : Below w.heap.size w w3 := by (repeat' (first | with_reducible exact Below.refl _ _ | with_reducible refine Below.setCell ?_ ?_ _ | with_reducible refine Below.drew ?_ | with_reducible refine below_drewN ?_ _ | with_reducible refine Below.alloc ?_ ?_ _ | with_reducible refine below_step b_w3 ?_ ?_ | with_reducible refine below_step b_w2 ?_ ?_ | with_reducible refine below_step b_w1 ?_ ?_ | omega | (simp; done) | (simp; omega)))
  have HB3 := Lib.hid B3; clear B3
  go_wp2_with fail
  go_loopw [10, 32] (fun c k wr => ∃ i : Nat, i ≤ 1440 ∧ k = .int .i64 i ∧ c = .int .i64 (liN P i) ∧ (wr.cell? ⟨g1_w3, 0, none⟩ = some (.int .i64 (deI n).lo) ∧ wr.cell? ⟨g1_w3, 1, none⟩ = some (.int .i64 (deI n).hi) ∧ wr.cell? ⟨g2_w3, 0, none⟩ = some (.int .i64 nv.x.lo) ∧ wr.cell? ⟨g2_w3, 1, none⟩ = some (.int .i64 nv.x.hi) ∧ wr.cell? ⟨g2_w3, 2, none⟩ = some (.int .i64 nv.y.lo) ∧ wr.cell? ⟨g2_w3, 3, none⟩ = some (.int .i64 nv.y.hi) ∧ wr.cell? ⟨g2_w3, 4, none⟩ = some (.int .i64 nv.z.lo) ∧ wr.cell? ⟨g2_w3, 5, none⟩ = some (.int .i64 nv.z.hi)) ∧ g1_w3 < wr.heap.size ∧ g2_w3 < wr.heap.size ∧ w3.heap.size ≤ wr.heap.size ∧ Below w.heap.size w wr) (fun _ k _ => (1440 - intOf k).toNat)
  case atStart => exact ⟨0, by omega, rfl, rfl, ⟨by go_simp, by go_simp, by go_simp, by go_simp, by go_simp, by go_simp, by go_simp, by go_simp⟩, by first | omega | (simp; omega) | (simp; done), by first | omega | (simp; omega) | (simp; done), by first | omega | (simp; omega) | (simp; done), by (repeat' (first | with_reducible exact Below.refl _ _ | with_reducible refine Below.setCell ?_ ?_ _ | with_reducible refine Below.drew ?_ | with_reducible refine below_drewN ?_ _ | with_reducible refine Below.alloc ?_ ?_ _ | exact HB3.out | omega | (simp; done) | (simp; omega)))⟩
  case round =>
    obtain ⟨i, hle, rfl, rfl, ⟨k0, k1, k2, k3, k4, k5, k6, k7⟩, zD, zN, zW, b_wr⟩ := hrel
    have bL := liN_bd P i
    have HB := Lib.hid b_wr
    have z_wr := b_wr.size
    clear b_wr
    by_cases ht : (i : Int) < 1440
    · go_wp2_with fail
      refine (SU.out i _ (by omega)).mono ?_
      rintro _ w4 ⟨rfl, b_w4⟩
      obtain ⟨c_w4, f_w4, z_w4⟩ := bfacts b_w4 (by first | (simp; rfl) | rfl)
      have y0_w4 : g1_w3 < w4.heap.size := (by omega)
      have y1_w4 : g2_w3 < w4.heap.size := (by omega)
      have k0_0_w4 : w4.cell? ⟨g1_w3, 0, none⟩ = some (.int .i64 ((deI n).lo)) := (by first | exact (c_w4 _ _ (by omega)).trans (by go_simp) | go_simp)
      have k0_1_w4 : w4.cell? ⟨g1_w3, 1, none⟩ = some (.int .i64 ((deI n).hi)) := (by first | exact (c_w4 _ _ (by omega)).trans (by go_simp) | go_simp)
      have k1_0_w4 : w4.cell? ⟨g2_w3, 0, none⟩ = some (.int .i64 (nv.x.lo)) := (by first | exact (c_w4 _ _ (by omega)).trans (by go_simp) | go_simp)
      have k1_1_w4 : w4.cell? ⟨g2_w3, 1, none⟩ = some (.int .i64 (nv.x.hi)) := (by first | exact (c_w4 _ _ (by omega)).trans (by go_simp) | go_simp)
      have k1_2_w4 : w4.cell? ⟨g2_w3, 2, none⟩ = some (.int .i64 (nv.y.lo)) := (by first | exact (c_w4 _ _ (by omega)).trans (by go_simp) | go_simp)
      have k1_3_w4 : w4.cell? ⟨g2_w3, 3, none⟩ = some (.int .i64 (nv.y.hi)) := (by first | exact (c_w4 _ _ (by omega)).trans (by go_simp) | go_simp)
      have k1_4_w4 : w4.cell? ⟨g2_w3, 4, none⟩ = some (.int .i64 (nv.z.lo)) := (by first | exact (c_w4 _ _ (by omega)).trans (by go_simp) | go_simp)
      have k1_5_w4 : w4.cell? ⟨g2_w3, 5, none⟩ = some (.int .i64 (nv.z.hi)) := (by first | exact (c_w4 _ _ (by omega)).trans (by go_simp) | go_simp)
      clear c_w4 f_w4
      by_cases u : (S i).z.lo > 0
      · go_wp2_with fail
        refine (DT.out i _).mono ?_
        rintro _ w5 ⟨rfl, b_w5⟩
        obtain ⟨c_w5, f_w5, z_w5⟩ := bfacts b_w5 (by first | (simp; rfl) | rfl)
        have y0_w5 : g1_w3 < w5.heap.size := (by omega)
        have y1_w5 : g2_w3 < w5.heap.size := (by omega)
        have k0_0_w5 : w5.cell? ⟨g1_w3, 0, none⟩ = some (.int .i64 ((deI n).lo)) := (by first | exact (c_w5 _ _ (by omega)).trans (by go_simp) | go_simp)
        have k0_1_w5 : w5.cell? ⟨g1_w3, 1, none⟩ = some (.int .i64 ((deI n).hi)) := (by first | exact (c_w5 _ _ (by omega)).trans (by go_simp) | go_simp)
        have k1_0_w5 : w5.cell? ⟨g2_w3, 0, none⟩ = some (.int .i64 (nv.x.lo)) := (by first | exact (c_w5 _ _ (by omega)).trans (by go_simp) | go_simp)
        have k1_1_w5 : w5.cell? ⟨g2_w3, 1, none⟩ = some (.int .i64 (nv.x.hi)) := (by first | exact (c_w5 _ _ (by omega)).trans (by go_simp) | go_simp)
        have k1_2_w5 : w5.cell? ⟨g2_w3, 2, none⟩ = some (.int .i64 (nv.y.lo)) := (by first | exact (c_w5 _ _ (by omega)).trans (by go_simp) | go_simp)
        have k1_3_w5 : w5.cell? ⟨g2_w3, 3, none⟩ = some (.int .i64 (nv.y.hi)) := (by first | exact (c_w5 _ _ (by omega)).trans (by go_simp) | go_simp)
        have k1_4_w5 : w5.cell? ⟨g2_w3, 4, none⟩ = some (.int .i64 (nv.z.lo)) := (by first | exact (c_w5 _ _ (by omega)).trans (by go_simp) | go_simp)
        have k1_5_w5 : w5.cell? ⟨g2_w3, 5, none⟩ = some (.int .i64 (nv.z.hi)) := (by first | exact (c_w5 _ _ (by omega)).trans (by go_simp) | go_simp)
        clear c_w5 f_w5
        have hb5 := Lib.hid ((HB.out.trans (b_w4.mono (by omega))).trans (Below.trans (Below.alloc (Below.refl _ _) (by omega) _) (b_w5.mono (by simp; omega))))
        clear HB b_w4 b_w5
        by_cases u2 : R i > 0
        · have pt : P i = true := by rw [PT.out]; exact decide_eq_true ⟨u, u2⟩
          have PI := Lib.hid pt; clear pt
          go_wp2
          go_roundw
          case rel => exact ⟨i + 1, by omega, by simp, by simp [liN, PI.out], ⟨by assumption, by assumption, by assumption, by assumption, by assumption, by assumption, by assumption, by assumption⟩, by assumption, by assumption, by omega, hb5.out⟩
          case measure => simp [intOf]; omega
        · have pt : P i = false := by rw [PT.out]; exact decide_eq_false (fun h => u2 h.2)
          have PI := Lib.hid pt; clear pt
          go_wp2
          go_roundw
          case rel => exact ⟨i + 1, by omega, by simp, by simp [liN, PI.out], ⟨by assumption, by assumption, by assumption, by assumption, by assumption, by assumption, by assumption, by assumption⟩, by assumption, by assumption, by omega, hb5.out⟩
          case measure => simp [intOf]; omega
      · have pt : P i = false := by rw [PT.out]; exact decide_eq_false (fun h => u h.1)
        have PI := Lib.hid pt; clear pt
        have hb4 := Lib.hid (HB.out.trans (b_w4.mono (by omega)))
        clear HB b_w4
        go_wp2
        go_roundw
        case rel => exact ⟨i + 1, by omega, by simp, by simp [liN, PI.out], ⟨by go_simp, by go_simp, by go_simp, by go_simp, by go_simp, by go_simp, by go_simp, by go_simp⟩, by simp; omega, by simp; omega, by simp; omega, Below.alloc hb4.out (by omega) _⟩
        case measure => simp [intOf]; omega
    · have hi' : i = N := by have := HN.out; omega
      have HI := Lib.hid hi'; clear hi'
      go_wp2
      exact bodyPost_ret (v := .tuple #[.int .i64 (liN P N), .int .i64 0]) (by rw [← HI.out]; simp [results, Try.results30, go_sem, *]) rfl ⟨rfl, HB.out.trans (by (repeat' (first | with_reducible exact Below.refl _ _ | with_reducible assumption | with_reducible refine Below.setCell ?_ ?_ _ | with_reducible refine Below.drew ?_ | with_reducible refine below_drewN ?_ _ | with_reducible refine Below.alloc ?_ ?_ _ | with_reducible refine below_step (by assumption) ?_ ?_ | omega | exact Below.size (by assumption) | (simp; done) | (simp; omega))))⟩

set_option maxHeartbeats 1000000 in
theorem sLitMinutes_no1 (az sl lat n : Int) (w : World) (p : waB az sl = false) :
    Calls Try.prog 28 #[(.agg #[.int .i64 (az), .int .i64 (sl)]), .int .i64 lat, .int .i64 n] w fun e w' => e = .returned (.tuple #[.int .i64 0, .int .i64 1]) ∧ Below w.heap.size w w' := by
  go_enter Try.func28, Try.ntmps28
  go_wp2_with fail
  refine (sIsWall_any az sl _).mono ?_
  rintro _ w1 ⟨rfl, b_w1⟩
  obtain ⟨c_w1, f_w1, z_w1⟩ := bfacts b_w1 (by first | (simp; rfl) | rfl)
  have y0_w1 : w.heap.size < w1.heap.size := (by omega)
  have k0_0_w1 : w1.cell? ⟨w.heap.size, 0, none⟩ = some (.int .i64 (az)) := (by first | exact (c_w1 _ _ (by omega)).trans (by go_simp) | go_simp)
  have l0_0_w1 : w1.frozen? ⟨w.heap.size, 0, none⟩ = false := (by first | exact (f_w1 _ _ (by omega)).trans (by go_simp) | go_simp)
  have k0_1_w1 : w1.cell? ⟨w.heap.size, 1, none⟩ = some (.int .i64 (sl)) := (by first | exact (c_w1 _ _ (by omega)).trans (by go_simp) | go_simp)
  have l0_1_w1 : w1.frozen? ⟨w.heap.size, 1, none⟩ = false := (by first | exact (f_w1 _ _ (by omega)).trans (by go_simp) | go_simp)
  clear c_w1 f_w1
  go_wp2
  exact bodyPost_ret (v := .tuple #[.int .i64 0, .int .i64 1]) (by simp [results, Try.results28, go_sem, *]) rfl ⟨rfl, by (repeat' (first | with_reducible exact Below.refl _ _ | with_reducible refine Below.setCell ?_ ?_ _ | with_reducible refine Below.drew ?_ | with_reducible refine below_drewN ?_ _ | with_reducible refine Below.alloc ?_ ?_ _ | with_reducible refine below_step b_w1 ?_ ?_ | omega | (simp; done) | (simp; omega)))⟩
set_option maxHeartbeats 1000000 in
theorem sLitMinutes_no2 (az sl lat n : Int) (w : World) (p : waB az sl = true) (q : (inB lat (-324000) 324000 && dayB n) = false) :
    Calls Try.prog 28 #[(.agg #[.int .i64 (az), .int .i64 (sl)]), .int .i64 lat, .int .i64 n] w fun e w' => e = .returned (.tuple #[.int .i64 0, .int .i64 2]) ∧ Below w.heap.size w w' := by
  cases p1 : inB lat (-324000) 324000
  · clear q
    go_enter Try.func28, Try.ntmps28
    go_wp2_with fail
    refine (sIsWall_any az sl _).mono ?_
    rintro _ w1 ⟨rfl, b_w1⟩
    obtain ⟨c_w1, f_w1, z_w1⟩ := bfacts b_w1 (by first | (simp; rfl) | rfl)
    have y0_w1 : w.heap.size < w1.heap.size := (by omega)
    have k0_0_w1 : w1.cell? ⟨w.heap.size, 0, none⟩ = some (.int .i64 (az)) := (by first | exact (c_w1 _ _ (by omega)).trans (by go_simp) | go_simp)
    have l0_0_w1 : w1.frozen? ⟨w.heap.size, 0, none⟩ = false := (by first | exact (f_w1 _ _ (by omega)).trans (by go_simp) | go_simp)
    have k0_1_w1 : w1.cell? ⟨w.heap.size, 1, none⟩ = some (.int .i64 (sl)) := (by first | exact (c_w1 _ _ (by omega)).trans (by go_simp) | go_simp)
    have l0_1_w1 : w1.frozen? ⟨w.heap.size, 1, none⟩ = false := (by first | exact (f_w1 _ _ (by omega)).trans (by go_simp) | go_simp)
    clear c_w1 f_w1
    go_wp2_with (go_at_call 65; refine (sLatitude_any _ _).mono ?_; rintro e w' ⟨rfl, rfl⟩)
    exact bodyPost_ret (v := .tuple #[.int .i64 0, .int .i64 2]) (by simp [results, Try.results28, go_sem, *]) rfl ⟨rfl, by (repeat' (first | with_reducible exact Below.refl _ _ | with_reducible refine Below.setCell ?_ ?_ _ | with_reducible refine Below.drew ?_ | with_reducible refine below_drewN ?_ _ | with_reducible refine Below.alloc ?_ ?_ _ | with_reducible refine below_step b_w1 ?_ ?_ | omega | (simp; done) | (simp; omega)))⟩
  · have p2 : dayB n = false := by rw [p1] at q; simpa using q
    clear q
    go_enter Try.func28, Try.ntmps28
    go_wp2_with fail
    refine (sIsWall_any az sl _).mono ?_
    rintro _ w1 ⟨rfl, b_w1⟩
    obtain ⟨c_w1, f_w1, z_w1⟩ := bfacts b_w1 (by first | (simp; rfl) | rfl)
    have y0_w1 : w.heap.size < w1.heap.size := (by omega)
    have k0_0_w1 : w1.cell? ⟨w.heap.size, 0, none⟩ = some (.int .i64 (az)) := (by first | exact (c_w1 _ _ (by omega)).trans (by go_simp) | go_simp)
    have l0_0_w1 : w1.frozen? ⟨w.heap.size, 0, none⟩ = false := (by first | exact (f_w1 _ _ (by omega)).trans (by go_simp) | go_simp)
    have k0_1_w1 : w1.cell? ⟨w.heap.size, 1, none⟩ = some (.int .i64 (sl)) := (by first | exact (c_w1 _ _ (by omega)).trans (by go_simp) | go_simp)
    have l0_1_w1 : w1.frozen? ⟨w.heap.size, 1, none⟩ = false := (by first | exact (f_w1 _ _ (by omega)).trans (by go_simp) | go_simp)
    clear c_w1 f_w1
    go_wp2_with (first | (go_at_call 65; refine (sLatitude_any _ _).mono ?_; rintro e w' ⟨rfl, rfl⟩) | (go_at_call 43; refine (sHas_any _ _).mono ?_; rintro e w' ⟨rfl, rfl⟩))
    exact bodyPost_ret (v := .tuple #[.int .i64 0, .int .i64 2]) (by simp [results, Try.results28, go_sem, *]) rfl ⟨rfl, by (repeat' (first | with_reducible exact Below.refl _ _ | with_reducible refine Below.setCell ?_ ?_ _ | with_reducible refine Below.drew ?_ | with_reducible refine below_drewN ?_ _ | with_reducible refine Below.alloc ?_ ?_ _ | with_reducible refine below_step b_w1 ?_ ?_ | omega | (simp; done) | (simp; omega)))⟩
set_option maxRecDepth 100000 in
set_option maxHeartbeats 8000000 in
theorem sLitMinutes_yes (az sl lat n : Int) (w : World) (p : waB az sl = true) (q : (inB lat (-324000) 324000 && dayB n) = true) :
    Calls Try.prog 28 #[(.agg #[.int .i64 (az), .int .i64 (sl)]), .int .i64 lat, .int .i64 n] w fun e w' => e = .returned (.tuple #[.int .i64 (liN (fun i => liB az sl lat (deI n).lo (deI n).hi i) 1440), .int .i64 0]) ∧ Below w.heap.size w w' := by
  obtain ⟨z0, z1, y0, y1⟩ := waB_t p
  obtain ⟨p1, p2⟩ : inB lat (-324000) 324000 = true ∧ dayB n = true := by simpa [Bool.and_eq_true] using q
  have l0 := inB_iff.1 p1
  obtain ⟨n0, n1⟩ := dayB_t p2
  have dd := deI_bd n
  obtain ⟨S, nv, R, Rh, ax, su, dt, hR⟩ : ∃ (S : Nat → V3) (nv : V3) (R Rh : Nat → Int), (nv = toV az sl) ∧
      (∀ (i : Nat) w, i < 1440 → Calls Try.prog 48 #[.int .i64 lat, (.agg #[.int .i64 ((deI n).lo), .int .i64 ((deI n).hi)]), .int .i64 i] w fun e w' => e = .returned (.agg #[.int .i64 ((S i).x.lo), .int .i64 ((S i).x.hi), .int .i64 ((S i).y.lo), .int .i64 ((S i).y.hi), .int .i64 ((S i).z.lo), .int .i64 ((S i).z.hi)]) ∧ Below w.heap.size w w') ∧
      (∀ (i : Nat) w, Calls Try.prog 67 #[(.agg #[.int .i64 (nv.x.lo), .int .i64 (nv.x.hi), .int .i64 (nv.y.lo), .int .i64 (nv.y.hi), .int .i64 (nv.z.lo), .int .i64 (nv.z.hi)]), (.agg #[.int .i64 ((S i).x.lo), .int .i64 ((S i).x.hi), .int .i64 ((S i).y.lo), .int .i64 ((S i).y.hi), .int .i64 ((S i).z.lo), .int .i64 ((S i).z.hi)])] w fun e w' => e = .returned (.agg #[.int .i64 (R i), .int .i64 (Rh i)]) ∧ Below w.heap.size w w') ∧
      (fun i : Nat => liB az sl lat (deI n).lo (deI n).hi i) = (fun i : Nat => decide ((S i).z.lo > 0 ∧ R i > 0)) :=
    ⟨fun i => suV lat (deI n).lo (deI n).hi i, toV az sl, fun i => (doV (suV lat (deI n).lo (deI n).hi i) (toV az sl)).lo, fun i => (doV (suV lat (deI n).lo (deI n).hi i) (toV az sl)).hi, rfl,
      fun i w hi => sSun_any lat (deI n).lo (deI n).hi i w l0.1 l0.2 (by omega) (by omega) (by omega) (by omega) (by omega) (by omega),
      fun i w => by
        obtain ⟨a1, a2, a3, a4, a5, a6, a7, a8, a9⟩ := suV_bd lat (deI n).lo (deI n).hi i
        obtain ⟨c1, c2, c3, c4, c5, c6, c7, c8, c9⟩ := toV_bd az sl
        have h := sDot_any (toV az sl) (suV lat (deI n).lo (deI n).hi i) w (by omega) (by omega) (by omega) (by omega) (by omega) (by omega) (by omega) (by omega) (by omega) (by omega) (by omega) (by omega) (by omega) (by omega) (by omega) (by omega) (by omega) (by omega) (by omega) (by omega) (by omega) (by omega) (by omega) (by omega)
        rw [doV_comm (toV az sl)] at h
        exact h, rfl⟩
  rw [hR]
  have axs := fun w => sAxes_any az sl w (by omega) (by omega) (by omega) (by omega)
  rw [← ax] at axs
  generalize toV (az - 324000) 0 = m0 at axs
  generalize toV az (sl + 324000) = m1 at axs
  have AX := Lib.hid axs; have SU := Lib.hid su; have DT := Lib.hid dt; clear axs su dt hR ax
  obtain ⟨P, hP⟩ : ∃ P : Nat → Bool, (fun i : Nat => decide ((S i).z.lo > 0 ∧ R i > 0)) = P := ⟨_, rfl⟩
  rw [hP]
  have PT : ∀ i, P i = decide ((S i).z.lo > 0 ∧ R i > 0) := fun i => by rw [← hP]
  have PT := Lib.hid PT; clear hP q
  obtain ⟨N, hN⟩ : ∃ N : Nat, N = 1440 := ⟨_, rfl⟩
  rw [← hN]
  have HN := Lib.hid hN; clear hN
  go_enter Try.func28, Try.ntmps28
  go_wp2_with fail
  refine (sIsWall_any az sl _).mono ?_
  rintro _ w1 ⟨rfl, b_w1⟩
  obtain ⟨c_w1, f_w1, z_w1⟩ := bfacts b_w1 (by first | (simp; rfl) | rfl)
  have y0_w1 : w.heap.size < w1.heap.size := (by omega)
  have k0_0_w1 : w1.cell? ⟨w.heap.size, 0, none⟩ = some (.int .i64 (az)) := (by first | exact (c_w1 _ _ (by omega)).trans (by go_simp) | go_simp)
  have l0_0_w1 : w1.frozen? ⟨w.heap.size, 0, none⟩ = false := (by first | exact (f_w1 _ _ (by omega)).trans (by go_simp) | go_simp)
  have k0_1_w1 : w1.cell? ⟨w.heap.size, 1, none⟩ = some (.int .i64 (sl)) := (by first | exact (c_w1 _ _ (by omega)).trans (by go_simp) | go_simp)
  have l0_1_w1 : w1.frozen? ⟨w.heap.size, 1, none⟩ = false := (by first | exact (f_w1 _ _ (by omega)).trans (by go_simp) | go_simp)
  clear c_w1 f_w1
  go_wp2_with (first | (go_at_call 65; refine (sLatitude_any _ _).mono ?_; rintro e w' ⟨rfl, rfl⟩) | (go_at_call 43; refine (sHas_any _ _).mono ?_; rintro e w' ⟨rfl, rfl⟩))
  refine (sDeclination_any n _ n0 n1).mono ?_
  rintro _ w2 ⟨rfl, b_w2⟩
  obtain ⟨c_w2, f_w2, z_w2⟩ := bfacts b_w2 (by first | (simp; rfl) | rfl)
  have y0_w2 : w.heap.size < w2.heap.size := (by omega)
  have k0_0_w2 : w2.cell? ⟨w.heap.size, 0, none⟩ = some (.int .i64 (az)) := (by first | exact (c_w2 _ _ (by omega)).trans (by go_simp) | go_simp)
  have l0_0_w2 : w2.frozen? ⟨w.heap.size, 0, none⟩ = false := (by first | exact (f_w2 _ _ (by omega)).trans (by go_simp) | go_simp)
  have k0_1_w2 : w2.cell? ⟨w.heap.size, 1, none⟩ = some (.int .i64 (sl)) := (by first | exact (c_w2 _ _ (by omega)).trans (by go_simp) | go_simp)
  have l0_1_w2 : w2.frozen? ⟨w.heap.size, 1, none⟩ = false := (by first | exact (f_w2 _ _ (by omega)).trans (by go_simp) | go_simp)
  clear c_w2 f_w2
  go_wp2_with fail
  refine (AX.out _).mono ?_
  rintro _ w3 ⟨g, rfl, hg1, hg2, b_w3⟩
  obtain ⟨c_w3, f_w3, z_w3⟩ := bfacts b_w3 (by first | (simp; rfl) | rfl); have y0_w3 : w.heap.size < w3.heap.size := (by omega); have y1_w3 : w2.heap.size < w3.heap.size := (by omega); have k1_0_w3 : w3.cell? ⟨w2.heap.size, 0, none⟩ = some (.int .i64 ((deI n).lo)) := (by first | exact (c_w3 _ _ (by omega)).trans (by go_simp) | go_simp); have l1_0_w3 : w3.frozen? ⟨w2.heap.size, 0, none⟩ = false := (by first | exact (f_w3 _ _ (by omega)).trans (by go_simp) | go_simp); have k1_1_w3 : w3.cell? ⟨w2.heap.size, 1, none⟩ = some (.int .i64 ((deI n).hi)) := (by first | exact (c_w3 _ _ (by omega)).trans (by go_simp) | go_simp); have l1_1_w3 : w3.frozen? ⟨w2.heap.size, 1, none⟩ = false := (by first | exact (f_w3 _ _ (by omega)).trans (by go_simp) | go_simp); clear c_w3 f_w3
  obtain ⟨cg, fg, zg⟩ := blk_facts hg2
  clear hg2
  have B3 : Below w.heap.size w w3 := by (repeat' (first | with_reducible exact Below.refl _ _ | with_reducible refine Below.setCell ?_ ?_ _ | with_reducible refine Below.drew ?_ | with_reducible refine below_drewN ?_ _ | with_reducible refine Below.alloc ?_ ?_ _ | with_reducible refine below_step b_w3 ?_ ?_ | with_reducible refine below_step b_w2 ?_ ?_ | with_reducible refine below_step b_w1 ?_ ?_ | omega | (simp; done) | (simp; omega)))
  have HB3 := Lib.hid B3; clear B3
  go_wp2_with fail
  go_loopw [10, 11] (fun c k wr => ∃ i : Nat, i ≤ 1440 ∧ k = .int .i64 i ∧ c = .int .i64 (liN P i) ∧ (wr.cell? ⟨w2.heap.size, 0, none⟩ = some (.int .i64 (deI n).lo) ∧ wr.cell? ⟨w2.heap.size, 1, none⟩ = some (.int .i64 (deI n).hi) ∧ wr.cell? ⟨w3.heap.size, 0, none⟩ = some (.int .i64 nv.x.lo) ∧ wr.cell? ⟨w3.heap.size, 1, none⟩ = some (.int .i64 nv.x.hi) ∧ wr.cell? ⟨w3.heap.size, 2, none⟩ = some (.int .i64 nv.y.lo) ∧ wr.cell? ⟨w3.heap.size, 3, none⟩ = some (.int .i64 nv.y.hi) ∧ wr.cell? ⟨w3.heap.size, 4, none⟩ = some (.int .i64 nv.z.lo) ∧ wr.cell? ⟨w3.heap.size, 5, none⟩ = some (.int .i64 nv.z.hi)) ∧ w2.heap.size < wr.heap.size ∧ w3.heap.size < wr.heap.size ∧ w3.heap.size ≤ wr.heap.size ∧ Below w.heap.size w wr) (fun _ k _ => (1440 - intOf k).toNat)
  case atStart => exact ⟨0, by omega, rfl, rfl, ⟨by go_simp, by go_simp, by go_simp, by go_simp, by go_simp, by go_simp, by go_simp, by go_simp⟩, by first | omega | (simp; omega) | (simp; done), by first | omega | (simp; omega) | (simp; done), by first | omega | (simp; omega) | (simp; done), by (repeat' (first | with_reducible exact Below.refl _ _ | with_reducible refine Below.setCell ?_ ?_ _ | with_reducible refine Below.drew ?_ | with_reducible refine below_drewN ?_ _ | with_reducible refine Below.alloc ?_ ?_ _ | exact HB3.out | omega | (simp; done) | (simp; omega)))⟩
  case round =>
    obtain ⟨i, hle, rfl, rfl, ⟨k0, k1, k2, k3, k4, k5, k6, k7⟩, zD, zN, zW, b_wr⟩ := hrel
    have bL := liN_bd P i
    have HB := Lib.hid b_wr
    have z_wr := b_wr.size
    clear b_wr
    by_cases ht : (i : Int) < 1440
    · go_wp2_with fail
      refine (SU.out i _ (by omega)).mono ?_
      rintro _ w4 ⟨rfl, b_w4⟩
      obtain ⟨c_w4, f_w4, z_w4⟩ := bfacts b_w4 (by first | (simp; rfl) | rfl)
      have y0_w4 : w2.heap.size < w4.heap.size := (by omega)
      have y1_w4 : w3.heap.size < w4.heap.size := (by omega)
      have k0_0_w4 : w4.cell? ⟨w2.heap.size, 0, none⟩ = some (.int .i64 ((deI n).lo)) := (by first | exact (c_w4 _ _ (by omega)).trans (by go_simp) | go_simp)
      have k0_1_w4 : w4.cell? ⟨w2.heap.size, 1, none⟩ = some (.int .i64 ((deI n).hi)) := (by first | exact (c_w4 _ _ (by omega)).trans (by go_simp) | go_simp)
      have k1_0_w4 : w4.cell? ⟨w3.heap.size, 0, none⟩ = some (.int .i64 (nv.x.lo)) := (by first | exact (c_w4 _ _ (by omega)).trans (by go_simp) | go_simp)
      have k1_1_w4 : w4.cell? ⟨w3.heap.size, 1, none⟩ = some (.int .i64 (nv.x.hi)) := (by first | exact (c_w4 _ _ (by omega)).trans (by go_simp) | go_simp)
      have k1_2_w4 : w4.cell? ⟨w3.heap.size, 2, none⟩ = some (.int .i64 (nv.y.lo)) := (by first | exact (c_w4 _ _ (by omega)).trans (by go_simp) | go_simp)
      have k1_3_w4 : w4.cell? ⟨w3.heap.size, 3, none⟩ = some (.int .i64 (nv.y.hi)) := (by first | exact (c_w4 _ _ (by omega)).trans (by go_simp) | go_simp)
      have k1_4_w4 : w4.cell? ⟨w3.heap.size, 4, none⟩ = some (.int .i64 (nv.z.lo)) := (by first | exact (c_w4 _ _ (by omega)).trans (by go_simp) | go_simp)
      have k1_5_w4 : w4.cell? ⟨w3.heap.size, 5, none⟩ = some (.int .i64 (nv.z.hi)) := (by first | exact (c_w4 _ _ (by omega)).trans (by go_simp) | go_simp)
      clear c_w4 f_w4
      by_cases u : (S i).z.lo > 0
      · go_wp2_with fail
        refine (DT.out i _).mono ?_
        rintro _ w5 ⟨rfl, b_w5⟩
        obtain ⟨c_w5, f_w5, z_w5⟩ := bfacts b_w5 (by first | (simp; rfl) | rfl)
        have y0_w5 : w2.heap.size < w5.heap.size := (by omega)
        have y1_w5 : w3.heap.size < w5.heap.size := (by omega)
        have k0_0_w5 : w5.cell? ⟨w2.heap.size, 0, none⟩ = some (.int .i64 ((deI n).lo)) := (by first | exact (c_w5 _ _ (by omega)).trans (by go_simp) | go_simp)
        have k0_1_w5 : w5.cell? ⟨w2.heap.size, 1, none⟩ = some (.int .i64 ((deI n).hi)) := (by first | exact (c_w5 _ _ (by omega)).trans (by go_simp) | go_simp)
        have k1_0_w5 : w5.cell? ⟨w3.heap.size, 0, none⟩ = some (.int .i64 (nv.x.lo)) := (by first | exact (c_w5 _ _ (by omega)).trans (by go_simp) | go_simp)
        have k1_1_w5 : w5.cell? ⟨w3.heap.size, 1, none⟩ = some (.int .i64 (nv.x.hi)) := (by first | exact (c_w5 _ _ (by omega)).trans (by go_simp) | go_simp)
        have k1_2_w5 : w5.cell? ⟨w3.heap.size, 2, none⟩ = some (.int .i64 (nv.y.lo)) := (by first | exact (c_w5 _ _ (by omega)).trans (by go_simp) | go_simp)
        have k1_3_w5 : w5.cell? ⟨w3.heap.size, 3, none⟩ = some (.int .i64 (nv.y.hi)) := (by first | exact (c_w5 _ _ (by omega)).trans (by go_simp) | go_simp)
        have k1_4_w5 : w5.cell? ⟨w3.heap.size, 4, none⟩ = some (.int .i64 (nv.z.lo)) := (by first | exact (c_w5 _ _ (by omega)).trans (by go_simp) | go_simp)
        have k1_5_w5 : w5.cell? ⟨w3.heap.size, 5, none⟩ = some (.int .i64 (nv.z.hi)) := (by first | exact (c_w5 _ _ (by omega)).trans (by go_simp) | go_simp)
        clear c_w5 f_w5
        have hb5 := Lib.hid ((HB.out.trans (b_w4.mono (by omega))).trans (Below.trans (Below.alloc (Below.refl _ _) (by omega) _) (b_w5.mono (by simp; omega))))
        clear HB b_w4 b_w5
        by_cases u2 : R i > 0
        · have pt : P i = true := by rw [PT.out]; exact decide_eq_true ⟨u, u2⟩
          have PI := Lib.hid pt; clear pt
          go_wp2
          go_roundw
          case rel => exact ⟨i + 1, by omega, by simp, by simp [liN, PI.out], ⟨by assumption, by assumption, by assumption, by assumption, by assumption, by assumption, by assumption, by assumption⟩, by assumption, by assumption, by omega, hb5.out⟩
          case measure => simp [intOf]; omega
        · have pt : P i = false := by rw [PT.out]; exact decide_eq_false (fun h => u2 h.2)
          have PI := Lib.hid pt; clear pt
          go_wp2
          go_roundw
          case rel => exact ⟨i + 1, by omega, by simp, by simp [liN, PI.out], ⟨by assumption, by assumption, by assumption, by assumption, by assumption, by assumption, by assumption, by assumption⟩, by assumption, by assumption, by omega, hb5.out⟩
          case measure => simp [intOf]; omega
      · have pt : P i = false := by rw [PT.out]; exact decide_eq_false (fun h => u h.1)
        have PI := Lib.hid pt; clear pt
        have hb4 := Lib.hid (HB.out.trans (b_w4.mono (by omega)))
        clear HB b_w4
        go_wp2
        go_roundw
        case rel => exact ⟨i + 1, by omega, by simp, by simp [liN, PI.out], ⟨by go_simp, by go_simp, by go_simp, by go_simp, by go_simp, by go_simp, by go_simp, by go_simp⟩, by simp; omega, by simp; omega, by simp; omega, Below.alloc hb4.out (by omega) _⟩
        case measure => simp [intOf]; omega
    · have hi' : i = N := by have := HN.out; omega
      have HI := Lib.hid hi'; clear hi'
      go_wp2
      exact bodyPost_ret (v := .tuple #[.int .i64 (liN P N), .int .i64 0]) (by rw [← HI.out]; simp [results, Try.results28, go_sem, *]) rfl ⟨rfl, HB.out.trans (by (repeat' (first | with_reducible exact Below.refl _ _ | with_reducible assumption | with_reducible refine Below.setCell ?_ ?_ _ | with_reducible refine Below.drew ?_ | with_reducible refine below_drewN ?_ _ | with_reducible refine Below.alloc ?_ ?_ _ | with_reducible refine below_step (by assumption) ?_ ?_ | omega | exact Below.size (by assumption) | (simp; done) | (simp; omega))))⟩


end Go.Proofs.Ytikmepppnechaaa
