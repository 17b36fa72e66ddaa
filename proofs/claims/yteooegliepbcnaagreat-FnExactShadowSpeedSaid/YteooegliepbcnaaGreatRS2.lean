/- What the reference's functions on dials return: the shadow at a minute. -/
import Derived.Test.YteooegliepbcnaaGreatRS
import Derived.Test.YteooegliepbcnaaGreatS5
import Derived.Test.YteooegliepbcnaaGreatMath5
namespace Go.Proofs.YteooegliepbcnaaGreat
set_option linter.unusedVariables false
set_option linter.unusedSimpArgs false
set_option maxRecDepth 10000
open Go.RowKit


set_option maxHeartbeats 400000 in
theorem sHeight_any (a : Int) (w : World) :
    Calls Tryz.prog 107 #[.int .i64 a] w fun e w' => e = .returned (.bool (heB a)) ∧ w = w' := by
  go_enter Tryz.func107, Tryz.ntmps107
  go_wp2_with (go_at_call 54; refine (sIn_any _ _ _ _).mono ?_; rintro e w' ⟨rfl, rfl⟩)
  go_ret
  exact ⟨rfl, rfl⟩

set_option maxHeartbeats 1000000 in
theorem sIsDial_any (lat az sl h : Int) (w : World) :
    Calls Tryz.prog 76 #[(.agg #[.int .i64 (lat), .int .i64 (az), .int .i64 (sl), .int .i64 (h)])] w fun e w' => e = .returned (.bool (dlB lat az sl h)) ∧ Below w.heap.size w w' := by
  have r := Lib.hid (show dlB lat az sl h = (inB lat (-324000) 324000 && (waB az sl && heB h)) from rfl)
  cases p : inB lat (-324000) 324000
  · go_enter Tryz.func76, Tryz.ntmps76
    go_wp2_with (go_at_call 105; refine (sLatitude_any _ _).mono ?_; rintro e w' ⟨rfl, rfl⟩)
    go_ret
    exact ⟨ret_bool (by rw [r.out, p]; rfl), by (repeat' (first | with_reducible exact Below.refl _ _ | with_reducible assumption | with_reducible refine Below.setCell ?_ ?_ _ | with_reducible refine Below.drew ?_ | with_reducible refine below_drewN ?_ _ | with_reducible refine Below.alloc ?_ ?_ _ | with_reducible refine below_step (by assumption) ?_ ?_ | omega | exact Below.size (by assumption) | (simp; done) | (simp; omega)))⟩
  · cases q : waB az sl
    · go_enter Tryz.func76, Tryz.ntmps76
      go_wp2_with (go_at_call 105; refine (sLatitude_any _ _).mono ?_; rintro e w' ⟨rfl, rfl⟩)
      refine (sIsWall_any az sl _).mono ?_
      rintro _ w1 ⟨rfl, b_w1⟩
      obtain ⟨c_w1, f_w1, z_w1⟩ := bfacts b_w1 (by first | (simp; rfl) | rfl)
      have y0_w1 : w.heap.size < w1.heap.size := (by omega)
      have k0_0_w1 : w1.cell? ⟨w.heap.size, 0, none⟩ = some (.int .i64 (lat)) := (by first | exact (c_w1 _ _ (by omega)).trans (by go_simp) | go_simp)
      have l0_0_w1 : w1.frozen? ⟨w.heap.size, 0, none⟩ = false := (by first | exact (f_w1 _ _ (by omega)).trans (by go_simp) | go_simp)
      have k0_1_w1 : w1.cell? ⟨w.heap.size, 1, none⟩ = some (.int .i64 (az)) := (by first | exact (c_w1 _ _ (by omega)).trans (by go_simp) | go_simp)
      have l0_1_w1 : w1.frozen? ⟨w.heap.size, 1, none⟩ = false := (by first | exact (f_w1 _ _ (by omega)).trans (by go_simp) | go_simp)
      have k0_2_w1 : w1.cell? ⟨w.heap.size, 2, none⟩ = some (.int .i64 (sl)) := (by first | exact (c_w1 _ _ (by omega)).trans (by go_simp) | go_simp)
      have l0_2_w1 : w1.frozen? ⟨w.heap.size, 2, none⟩ = false := (by first | exact (f_w1 _ _ (by omega)).trans (by go_simp) | go_simp)
      have k0_3_w1 : w1.cell? ⟨w.heap.size, 3, none⟩ = some (.int .i64 (h)) := (by first | exact (c_w1 _ _ (by omega)).trans (by go_simp) | go_simp)
      have l0_3_w1 : w1.frozen? ⟨w.heap.size, 3, none⟩ = false := (by first | exact (f_w1 _ _ (by omega)).trans (by go_simp) | go_simp)
      clear c_w1 f_w1
      go_wp2
      go_ret
      exact ⟨ret_bool (by rw [r.out, p, q]; rfl), by (repeat' (first | with_reducible exact Below.refl _ _ | with_reducible refine Below.setCell ?_ ?_ _ | with_reducible refine Below.drew ?_ | with_reducible refine below_drewN ?_ _ | with_reducible refine Below.alloc ?_ ?_ _ | with_reducible refine below_step b_w1 ?_ ?_ | omega | (simp; done) | (simp; omega)))⟩
    · go_enter Tryz.func76, Tryz.ntmps76
      go_wp2_with (go_at_call 105; refine (sLatitude_any _ _).mono ?_; rintro e w' ⟨rfl, rfl⟩)
      refine (sIsWall_any az sl _).mono ?_
      rintro _ w1 ⟨rfl, b_w1⟩
      obtain ⟨c_w1, f_w1, z_w1⟩ := bfacts b_w1 (by first | (simp; rfl) | rfl)
      have y0_w1 : w.heap.size < w1.heap.size := (by omega)
      have k0_0_w1 : w1.cell? ⟨w.heap.size, 0, none⟩ = some (.int .i64 (lat)) := (by first | exact (c_w1 _ _ (by omega)).trans (by go_simp) | go_simp)
      have l0_0_w1 : w1.frozen? ⟨w.heap.size, 0, none⟩ = false := (by first | exact (f_w1 _ _ (by omega)).trans (by go_simp) | go_simp)
      have k0_1_w1 : w1.cell? ⟨w.heap.size, 1, none⟩ = some (.int .i64 (az)) := (by first | exact (c_w1 _ _ (by omega)).trans (by go_simp) | go_simp)
      have l0_1_w1 : w1.frozen? ⟨w.heap.size, 1, none⟩ = false := (by first | exact (f_w1 _ _ (by omega)).trans (by go_simp) | go_simp)
      have k0_2_w1 : w1.cell? ⟨w.heap.size, 2, none⟩ = some (.int .i64 (sl)) := (by first | exact (c_w1 _ _ (by omega)).trans (by go_simp) | go_simp)
      have l0_2_w1 : w1.frozen? ⟨w.heap.size, 2, none⟩ = false := (by first | exact (f_w1 _ _ (by omega)).trans (by go_simp) | go_simp)
      have k0_3_w1 : w1.cell? ⟨w.heap.size, 3, none⟩ = some (.int .i64 (h)) := (by first | exact (c_w1 _ _ (by omega)).trans (by go_simp) | go_simp)
      have l0_3_w1 : w1.frozen? ⟨w.heap.size, 3, none⟩ = false := (by first | exact (f_w1 _ _ (by omega)).trans (by go_simp) | go_simp)
      clear c_w1 f_w1
      go_wp2_with (go_at_call 107; refine (sHeight_any _ _).mono ?_; rintro e w' ⟨rfl, rfl⟩)
      go_ret
      exact ⟨ret_bool (by rw [r.out, p, q]; simp), by (repeat' (first | with_reducible exact Below.refl _ _ | with_reducible refine Below.setCell ?_ ?_ _ | with_reducible refine Below.drew ?_ | with_reducible refine below_drewN ?_ _ | with_reducible refine Below.alloc ?_ ?_ _ | with_reducible refine below_step b_w1 ?_ ?_ | omega | (simp; done) | (simp; omega)))⟩

set_option maxHeartbeats 1000000 in
theorem sCode_any (lat az sl h n : Int) (w : World) :
    Calls Tryz.prog 53 #[(.agg #[.int .i64 (lat), .int .i64 (az), .int .i64 (sl), .int .i64 (h)]), .int .i64 n] w fun e w' => e = .returned (.int .i64 (dcM (dlB lat az sl h) (dayB n))) ∧ Below w.heap.size w w' := by
  have di := fun w => sIsDial_any lat az sl h w
  generalize dlB lat az sl h = d at di ⊢
  have DI := Lib.hid di; clear di
  cases d
  · go_enter Tryz.func53, Tryz.ntmps53
    go_wp2_with fail
    refine (DI.out _).mono ?_
    rintro _ w1 ⟨rfl, b_w1⟩
    obtain ⟨c_w1, f_w1, z_w1⟩ := bfacts b_w1 (by first | (simp; rfl) | rfl)
    have y0_w1 : w.heap.size < w1.heap.size := (by omega)
    have k0_0_w1 : w1.cell? ⟨w.heap.size, 0, none⟩ = some (.int .i64 (lat)) := (by first | exact (c_w1 _ _ (by omega)).trans (by go_simp) | go_simp)
    have l0_0_w1 : w1.frozen? ⟨w.heap.size, 0, none⟩ = false := (by first | exact (f_w1 _ _ (by omega)).trans (by go_simp) | go_simp)
    have k0_1_w1 : w1.cell? ⟨w.heap.size, 1, none⟩ = some (.int .i64 (az)) := (by first | exact (c_w1 _ _ (by omega)).trans (by go_simp) | go_simp)
    have l0_1_w1 : w1.frozen? ⟨w.heap.size, 1, none⟩ = false := (by first | exact (f_w1 _ _ (by omega)).trans (by go_simp) | go_simp)
    have k0_2_w1 : w1.cell? ⟨w.heap.size, 2, none⟩ = some (.int .i64 (sl)) := (by first | exact (c_w1 _ _ (by omega)).trans (by go_simp) | go_simp)
    have l0_2_w1 : w1.frozen? ⟨w.heap.size, 2, none⟩ = false := (by first | exact (f_w1 _ _ (by omega)).trans (by go_simp) | go_simp)
    have k0_3_w1 : w1.cell? ⟨w.heap.size, 3, none⟩ = some (.int .i64 (h)) := (by first | exact (c_w1 _ _ (by omega)).trans (by go_simp) | go_simp)
    have l0_3_w1 : w1.frozen? ⟨w.heap.size, 3, none⟩ = false := (by first | exact (f_w1 _ _ (by omega)).trans (by go_simp) | go_simp)
    clear c_w1 f_w1
    go_wp2
    go_ret
    exact ⟨rfl, by (repeat' (first | with_reducible exact Below.refl _ _ | with_reducible refine Below.setCell ?_ ?_ _ | with_reducible refine Below.drew ?_ | with_reducible refine below_drewN ?_ _ | with_reducible refine Below.alloc ?_ ?_ _ | with_reducible refine below_step b_w1 ?_ ?_ | omega | (simp; done) | (simp; omega)))⟩
  · have ha := fun w => sHas_any n w
    generalize dayB n = b at ha ⊢
    have HA := Lib.hid ha; clear ha
    cases b
    · go_enter Tryz.func53, Tryz.ntmps53
      go_wp2_with fail
      refine (DI.out _).mono ?_
      rintro _ w1 ⟨rfl, b_w1⟩
      obtain ⟨c_w1, f_w1, z_w1⟩ := bfacts b_w1 (by first | (simp; rfl) | rfl)
      have y0_w1 : w.heap.size < w1.heap.size := (by omega)
      have k0_0_w1 : w1.cell? ⟨w.heap.size, 0, none⟩ = some (.int .i64 (lat)) := (by first | exact (c_w1 _ _ (by omega)).trans (by go_simp) | go_simp)
      have l0_0_w1 : w1.frozen? ⟨w.heap.size, 0, none⟩ = false := (by first | exact (f_w1 _ _ (by omega)).trans (by go_simp) | go_simp)
      have k0_1_w1 : w1.cell? ⟨w.heap.size, 1, none⟩ = some (.int .i64 (az)) := (by first | exact (c_w1 _ _ (by omega)).trans (by go_simp) | go_simp)
      have l0_1_w1 : w1.frozen? ⟨w.heap.size, 1, none⟩ = false := (by first | exact (f_w1 _ _ (by omega)).trans (by go_simp) | go_simp)
      have k0_2_w1 : w1.cell? ⟨w.heap.size, 2, none⟩ = some (.int .i64 (sl)) := (by first | exact (c_w1 _ _ (by omega)).trans (by go_simp) | go_simp)
      have l0_2_w1 : w1.frozen? ⟨w.heap.size, 2, none⟩ = false := (by first | exact (f_w1 _ _ (by omega)).trans (by go_simp) | go_simp)
      have k0_3_w1 : w1.cell? ⟨w.heap.size, 3, none⟩ = some (.int .i64 (h)) := (by first | exact (c_w1 _ _ (by omega)).trans (by go_simp) | go_simp)
      have l0_3_w1 : w1.frozen? ⟨w.heap.size, 3, none⟩ = false := (by first | exact (f_w1 _ _ (by omega)).trans (by go_simp) | go_simp)
      clear c_w1 f_w1
      go_wp2_with (go_at_call 77; refine (HA.out _).mono ?_; rintro e w' ⟨rfl, rfl⟩)
      go_ret
      exact ⟨rfl, by (repeat' (first | with_reducible exact Below.refl _ _ | with_reducible refine Below.setCell ?_ ?_ _ | with_reducible refine Below.drew ?_ | with_reducible refine below_drewN ?_ _ | with_reducible refine Below.alloc ?_ ?_ _ | with_reducible refine below_step b_w1 ?_ ?_ | omega | (simp; done) | (simp; omega)))⟩
    · go_enter Tryz.func53, Tryz.ntmps53
      go_wp2_with fail
      refine (DI.out _).mono ?_
      rintro _ w1 ⟨rfl, b_w1⟩
      obtain ⟨c_w1, f_w1, z_w1⟩ := bfacts b_w1 (by first | (simp; rfl) | rfl)
      have y0_w1 : w.heap.size < w1.heap.size := (by omega)
      have k0_0_w1 : w1.cell? ⟨w.heap.size, 0, none⟩ = some (.int .i64 (lat)) := (by first | exact (c_w1 _ _ (by omega)).trans (by go_simp) | go_simp)
      have l0_0_w1 : w1.frozen? ⟨w.heap.size, 0, none⟩ = false := (by first | exact (f_w1 _ _ (by omega)).trans (by go_simp) | go_simp)
      have k0_1_w1 : w1.cell? ⟨w.heap.size, 1, none⟩ = some (.int .i64 (az)) := (by first | exact (c_w1 _ _ (by omega)).trans (by go_simp) | go_simp)
      have l0_1_w1 : w1.frozen? ⟨w.heap.size, 1, none⟩ = false := (by first | exact (f_w1 _ _ (by omega)).trans (by go_simp) | go_simp)
      have k0_2_w1 : w1.cell? ⟨w.heap.size, 2, none⟩ = some (.int .i64 (sl)) := (by first | exact (c_w1 _ _ (by omega)).trans (by go_simp) | go_simp)
      have l0_2_w1 : w1.frozen? ⟨w.heap.size, 2, none⟩ = false := (by first | exact (f_w1 _ _ (by omega)).trans (by go_simp) | go_simp)
      have k0_3_w1 : w1.cell? ⟨w.heap.size, 3, none⟩ = some (.int .i64 (h)) := (by first | exact (c_w1 _ _ (by omega)).trans (by go_simp) | go_simp)
      have l0_3_w1 : w1.frozen? ⟨w.heap.size, 3, none⟩ = false := (by first | exact (f_w1 _ _ (by omega)).trans (by go_simp) | go_simp)
      clear c_w1 f_w1
      go_wp2_with (go_at_call 77; refine (HA.out _).mono ?_; rintro e w' ⟨rfl, rfl⟩)
      go_ret
      exact ⟨rfl, by (repeat' (first | with_reducible exact Below.refl _ _ | with_reducible refine Below.setCell ?_ ?_ _ | with_reducible refine Below.drew ?_ | with_reducible refine below_drewN ?_ _ | with_reducible refine Below.alloc ?_ ?_ _ | with_reducible refine below_step b_w1 ?_ ?_ | omega | (simp; done) | (simp; omega)))⟩

set_option maxHeartbeats 4000000 in
theorem sMakeD_any (lat az sl h n : Int) (w : World) (z0 : 0 ≤ az) (z1 : az ≤ 1295999) (y0 : -324000 ≤ sl) (y1 : sl ≤ 324000) (n0 : -1000000 ≤ n) (n1 : n ≤ 1000000) :
    Calls Tryz.prog 55 #[(.agg #[.int .i64 (lat), .int .i64 (az), .int .i64 (sl), .int .i64 (h)]), .int .i64 n] w fun e w' => ∃ g : Nat, e = .returned (.agg #[.int .i64 lat, .int .i64 az, .int .i64 sl, .int .i64 h, .int .i64 (deI n).lo, .int .i64 (deI n).hi, .slice (some ⟨g, 0, none⟩) 3 3]) ∧ w.heap.size ≤ g ∧
      w'.heap[g]? = some (.cells #[.int .i64 (toV (az - 324000) 0).x.lo, .int .i64 (toV (az - 324000) 0).x.hi, .int .i64 (toV (az - 324000) 0).y.lo, .int .i64 (toV (az - 324000) 0).y.hi, .int .i64 (toV (az - 324000) 0).z.lo, .int .i64 (toV (az - 324000) 0).z.hi, .int .i64 (toV az (sl + 324000)).x.lo, .int .i64 (toV az (sl + 324000)).x.hi, .int .i64 (toV az (sl + 324000)).y.lo, .int .i64 (toV az (sl + 324000)).y.hi, .int .i64 (toV az (sl + 324000)).z.lo, .int .i64 (toV az (sl + 324000)).z.hi, .int .i64 (toV az sl).x.lo, .int .i64 (toV az sl).x.hi, .int .i64 (toV az sl).y.lo, .int .i64 (toV az sl).y.hi, .int .i64 (toV az sl).z.lo, .int .i64 (toV az sl).z.hi] 102) ∧ Below w.heap.size w w' := by
  have ax := fun w => sAxes_any az sl w (by omega) (by omega) (by omega) (by omega)
  generalize toV (az - 324000) 0 = m0 at ax ⊢
  generalize toV az (sl + 324000) = m1 at ax ⊢
  generalize toV az sl = m2 at ax ⊢
  have AX := Lib.hid ax; clear ax
  go_enter Tryz.func55, Tryz.ntmps55
  go_wp2_with fail
  refine wp_region_bx2 7 none (.cells #[] 0) (fun w' => w'.cell? ⟨w.heap.size, 0, none⟩ = some (.int .i64 (lat)) ∧ w'.cell? ⟨w.heap.size, 1, none⟩ = some (.int .i64 (az)) ∧ w'.cell? ⟨w.heap.size, 2, none⟩ = some (.int .i64 (sl)) ∧ w'.cell? ⟨w.heap.size, 3, none⟩ = some (.int .i64 (h))) (by kernel_rfl) (by kernel_rfl) (by rfl) (fun b hb => by cases hb) (fun w' hw' => ?_) (fun hS => ?_)
  focus exact ⟨hw'.cell (a := ⟨w.heap.size, 0, none⟩) (by go_simp) (by first | (simp; done) | (simp; omega)), hw'.cell (a := ⟨w.heap.size, 1, none⟩) (by go_simp) (by first | (simp; done) | (simp; omega)), hw'.cell (a := ⟨w.heap.size, 2, none⟩) (by go_simp) (by first | (simp; done) | (simp; omega)), hw'.cell (a := ⟨w.heap.size, 3, none⟩) (by go_simp) (by first | (simp; done) | (simp; omega))⟩
  have HS := Lib.hid hS; clear hS
  simp only [List.take_succ_cons, List.take_zero, List.drop_succ_cons, List.drop_zero]
  repeat (first | (refine wpBx_op ?_ (fun K hK => ?_); (focus exact fun _ => rfl); apply Exists.intro; refine ⟨fun γ w' hw' => ?_, ?_⟩; (focus (first | (go_simp; first | (go_at_call 89; exact sDeclination_any _ _ n0 n1)) | (obtain ⟨kr0, kr1, kr2, kr3⟩ := HS.out w' hw'; go_simp; rfl))); go_simp; refine hK _ ?_; clear hK K) | (refine wpBx_mk (fun g => .slice (some ⟨g, 0, none⟩) 3 3) ?_ (fun K hK => ?_); (focus exact fun _ => rfl); apply Exists.intro; refine ⟨fun γ w' hw' => ?_, ?_⟩; (focus (go_simp; (go_at_call 96; exact AX.out _))); go_simp; refine hK _ _ ?_; clear hK K) | (apply wpBx_dep 5; (case hm => (repeat (first | exact List.mem_append_right _ (List.mem_singleton.2 rfl) | refine List.mem_append_left _ ?_))); (case hd => kernel_rfl); (case hp => decide); (case hw => (focus exact fun _ => rfl)); intro K hK; apply Exists.intro; refine ⟨fun γ g w' hg hw' hx => ?_, ?_⟩; (focus (obtain ⟨cx, fx, zx⟩ := blk_facts hx; clear hx; go_simp; rfl)); go_simp; refine hK _ ?_; clear hK K) | (refine wpBx_no ?_ (fun K hK => ?_); (focus exact fun _ => rfl); go_simp; refine hK _ ?_; clear hK K))
  refine wpBx_end ?_
  intro γ w1 gr_w1 ho_w1
  refine TailX_cons (fun g0_w1 e0_w1 h0_w1 k0_w1 n0_w1 => TailX_nil ?_)
  (try simp only [Nat.zero_add, Nat.reduceAdd] at e0_w1)
  (try simp only [e0_w1])
  clear e0_w1
  clear γ
  clear ho_w1
  have b_w1 := below_of_grown gr_w1
  clear gr_w1
  obtain ⟨c_w1, f_w1, z_w1⟩ := bfacts b_w1 (by first | (simp; rfl) | rfl)
  have hk0_w1 := Lib.hid k0_w1
  obtain ⟨cg0_w1, fg0_w1, zg0_w1⟩ := blk_facts k0_w1
  (try simp at h0_w1)
  (try simp at n0_w1)
  clear k0_w1
  have y0_w1 : w.heap.size + 1 < w1.heap.size := (by omega)
  have yb0_w1 : w.heap.size < w1.heap.size := (by omega)
  have k0_0_w1 : w1.cell? ⟨w.heap.size + 1, 0, none⟩ = some (.int .i64 (0)) := (by first | exact (c_w1 _ _ (by omega)).trans (by go_simp) | go_simp)
  have l0_0_w1 : w1.frozen? ⟨w.heap.size + 1, 0, none⟩ = false := (by first | exact (f_w1 _ _ (by omega)).trans (by go_simp) | go_simp)
  have k0_1_w1 : w1.cell? ⟨w.heap.size + 1, 1, none⟩ = some (.int .i64 (0)) := (by first | exact (c_w1 _ _ (by omega)).trans (by go_simp) | go_simp)
  have l0_1_w1 : w1.frozen? ⟨w.heap.size + 1, 1, none⟩ = false := (by first | exact (f_w1 _ _ (by omega)).trans (by go_simp) | go_simp)
  have k0_2_w1 : w1.cell? ⟨w.heap.size + 1, 2, none⟩ = some (.int .i64 (0)) := (by first | exact (c_w1 _ _ (by omega)).trans (by go_simp) | go_simp)
  have l0_2_w1 : w1.frozen? ⟨w.heap.size + 1, 2, none⟩ = false := (by first | exact (f_w1 _ _ (by omega)).trans (by go_simp) | go_simp)
  have k0_3_w1 : w1.cell? ⟨w.heap.size + 1, 3, none⟩ = some (.int .i64 (0)) := (by first | exact (c_w1 _ _ (by omega)).trans (by go_simp) | go_simp)
  have l0_3_w1 : w1.frozen? ⟨w.heap.size + 1, 3, none⟩ = false := (by first | exact (f_w1 _ _ (by omega)).trans (by go_simp) | go_simp)
  have k0_4_w1 : w1.cell? ⟨w.heap.size + 1, 4, none⟩ = some (.int .i64 (0)) := (by first | exact (c_w1 _ _ (by omega)).trans (by go_simp) | go_simp)
  have l0_4_w1 : w1.frozen? ⟨w.heap.size + 1, 4, none⟩ = false := (by first | exact (f_w1 _ _ (by omega)).trans (by go_simp) | go_simp)
  have k0_5_w1 : w1.cell? ⟨w.heap.size + 1, 5, none⟩ = some (.int .i64 (0)) := (by first | exact (c_w1 _ _ (by omega)).trans (by go_simp) | go_simp)
  have l0_5_w1 : w1.frozen? ⟨w.heap.size + 1, 5, none⟩ = false := (by first | exact (f_w1 _ _ (by omega)).trans (by go_simp) | go_simp)
  have k0_6_w1 : w1.cell? ⟨w.heap.size + 1, 6, none⟩ = some (.slice none 0 0) := (by first | exact (c_w1 _ _ (by omega)).trans (by go_simp) | go_simp)
  have l0_6_w1 : w1.frozen? ⟨w.heap.size + 1, 6, none⟩ = false := (by first | exact (f_w1 _ _ (by omega)).trans (by go_simp) | go_simp)
  clear c_w1 f_w1 cg0_w1 fg0_w1
  clear HS
  go_simp
  go_wp2
  exact bodyPost_ret (v := .agg #[.int .i64 lat, .int .i64 az, .int .i64 sl, .int .i64 h, .int .i64 (deI n).lo, .int .i64 (deI n).hi, .slice (some ⟨g0_w1, 0, none⟩) 3 3]) (by simp [results, Tryz.results55, go_sem, *]) rfl ⟨g0_w1, rfl, by omega, by (repeat (with_reducible refine heap_setn ?_ (by simp; omega))); with_reducible exact hk0_w1.out, by (repeat' (first | with_reducible exact Below.refl _ _ | with_reducible refine Below.setCell ?_ ?_ _ | with_reducible refine Below.drew ?_ | with_reducible refine below_drewN ?_ _ | with_reducible refine Below.alloc ?_ ?_ _ | with_reducible refine below_step b_w1 ?_ ?_ | omega | (simp; done) | (simp; omega)))⟩


end Go.Proofs.YteooegliepbcnaaGreat
