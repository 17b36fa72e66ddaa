/- The laws that ask only for arcs, altitudes and searches. -/
import Derived.Test.YtfhoogaijamekaaF
import Derived.Test.YtfhoogaijamekaaG
import Derived.Test.YtfhoogaijamekaaE
import Derived.Test.YtfhoogaijamekaaRowKit
namespace Go.Proofs.Ytfhoogaijamekaa
open Go.ChangeShapes Go.WideShapes Go.ChangeAt Go.RowKit


set_option maxHeartbeats 400000 in
theorem walk_FnExactArcCosine (v : Int) (_ : -9223372036854775808 ≤ v ∧ v ≤ 9223372036854775807) (w : World) :
    Calls Try.prog 6 #[.int .i64 v] w fun e w' => e = .returned (.bool true) ∧ Below w.heap.size w w' := by
  by_cases hv : -1000000 ≤ v ∧ v ≤ 1000000
  · obtain ⟨h1, h2⟩ := hv
    go_enter Try.func6, Try.ntmps6
    go_wp2_with (first | (go_at_call 17; refine (sArcCosine_yes _ _ h1 h2).mono ?_; rintro e w1 ⟨rfl, b_w1⟩; obtain ⟨c_w1, f_w1, z_w1⟩ := bfacts b_w1 (by first | (simp; rfl) | rfl)) | (go_at_call 18; refine (ArcCosine_yes _ _ h1 h2).mono ?_; rintro e w2 ⟨rfl, b_w2⟩; obtain ⟨c_w2, f_w2, z_w2⟩ := bfacts b_w2 (by first | (simp; rfl) | rfl); have y0_w2 : w1.heap.size < w2.heap.size := (by omega)) | (go_at_call 16; refine (eqInterval_same _ _ _).mono ?_; rintro e w3 ⟨rfl, b_w3⟩; obtain ⟨c_w3, f_w3, z_w3⟩ := bfacts b_w3 (by first | (simp; rfl) | rfl)))
    go_ret
    exact ⟨rfl, by (repeat' (first | with_reducible exact Below.refl _ _ | with_reducible assumption | with_reducible refine Below.setCell ?_ ?_ _ | with_reducible refine Below.drew ?_ | with_reducible refine below_drewN ?_ _ | with_reducible refine Below.alloc ?_ ?_ _ | with_reducible refine below_step (by assumption) ?_ ?_ | omega | exact Below.size (by assumption) | (simp; done) | (simp; omega)))⟩
  · have hv' : v < -1000000 ∨ 1000000 < v := by omega
    clear hv
    go_enter Try.func6, Try.ntmps6
    go_wp2_with (first | (go_at_call 17; refine (sArcCosine_no _ _ hv').mono ?_; rintro e w1 ⟨rfl, b_w1⟩; obtain ⟨c_w1, f_w1, z_w1⟩ := bfacts b_w1 (by first | (simp; rfl) | rfl)) | (go_at_call 18; refine (ArcCosine_no _ _ hv').mono ?_; rintro e w2 ⟨rfl, b_w2⟩; obtain ⟨c_w2, f_w2, z_w2⟩ := bfacts b_w2 (by first | (simp; rfl) | rfl); have y0_w2 : w1.heap.size < w2.heap.size := (by omega)) | (go_at_call 16; refine (eqInterval_same _ _ _).mono ?_; rintro e w3 ⟨rfl, b_w3⟩; obtain ⟨c_w3, f_w3, z_w3⟩ := bfacts b_w3 (by first | (simp; rfl) | rfl)))
    go_ret
    exact ⟨rfl, by (repeat' (first | with_reducible exact Below.refl _ _ | with_reducible assumption | with_reducible refine Below.setCell ?_ ?_ _ | with_reducible refine Below.drew ?_ | with_reducible refine below_drewN ?_ _ | with_reducible refine Below.alloc ?_ ?_ _ | with_reducible refine below_step (by assumption) ?_ ?_ | omega | exact Below.size (by assumption) | (simp; done) | (simp; omega)))⟩
set_option maxRecDepth 100000 in
theorem lifted_FnExactArcCosine (os : Os) (started : os.Started) (H : Type) (enc : TypeId × Value → H) :
    ReturnsInHanded {} Try.checked os 6 .any (Rows.fnExactArcCosineSpec.pre6 enc Try.prog Try.f6 Rows.fnExactArcCosineRow.domain false) (Rows.fnExactArcCosineSpec.post enc Try.prog Try.f6 false true false false) := by
  refine returnsInHanded_of_change (C := Try.checked) prog_own started (by kernel_rfl) Try.func6
    (ChangeSpec.witness6 (enc := enc) (C := Try.checked) false ⟨#[], #[.int .i64 0], []⟩ 8 (by kernel_rfl) (by kernel_rfl) (by kernel_rfl) (by kernel_rfl)) ?_
  intro W base args ds gs before hval0 hW hcnd _
  have hval : ∀ (j : Nat) t v, Try.f6.params[j]? = some t → args[j]? = some v → Value.okWide Try.prog W .any base t v := hval0
  have hW' := hW
  obtain ⟨p, q, hA0, hV, rfl, hfz, hnd⟩ := hW
  have hA : DataW.TrodAll enc Try.prog W 0 (fun _ => true) true Try.f6.params.toList args.toList ds p := hA0
  rw [Try.params6] at hA hval
  obtain ⟨v0, vs0, d0, ds0, p0, q0, hargs, rfl, rfl, h0, r0⟩ := trodAll_cons hA
  obtain ⟨rfl, rfl, rfl⟩ := trodAll_nil r0
  obtain rfl : args = #[v0] := by cases args; simp_all
  obtain ⟨rfl, rfl⟩ := trodVars_none hV
  obtain ⟨a0, rfl, rfl, rfl, wa0⟩ := open_int Try.underlying2 (hval 0 2 v0 rfl rfl) h0
  clear hA0 hval0
  simp only [List.append_nil] at hW'
  refine (walk_FnExactArcCosine a0 (bounds_i64 wa0) W).mono fun e W' ⟨he, hb⟩ => ?_
  subst he
  exact ⟨_, rfl, post_of_below (pa := []) (pv := []) hW' (fun _ _ _ => (trodAll_cons_mk (shut_bool Try.underlying4 _) trodAll_mk0)) (fun sp _ => (trodAll_cons_mk (Trod_i64_any (k := 4) (by kernel_rfl) h0) (trodAll_mk0))) (fun _ _ => rfl) rfl hb (ok_one (by kernel_rfl) rfl (okWide_bool_mk Try.underlying4 _))⟩

theorem FnExactArcCosine_holds : Rows.FnExactArcCosineSaid :=
  OpenClaim.holds_of_wide 6 Try.f6 rfl rfl rfl rfl rfl rfl rfl ⟨rfl, rfl, rfl, rfl, rfl⟩ rfl rfl rfl rfl rfl (by kernel_rfl) Try.func6 (by kernel_rfl)
    (of_decide_eq_true (by kernel_rfl)) (by unfold Func.isWrapper; first | (rw [if_pos (by decide +kernel)]; kernel_rfl) | (rw [if_neg (by decide +kernel)]; exact ⟨rfl, rfl⟩))
    (fun os started H enc _ => lifted_FnExactArcCosine os started H enc)

#print axioms FnExactArcCosine_holds

set_option maxHeartbeats 400000 in
theorem walk_FnExactArcSineRange (a b : Int) (_ : -9223372036854775808 ≤ a ∧ a ≤ 9223372036854775807) (_ : -9223372036854775808 ≤ b ∧ b ≤ 9223372036854775807) (w : World) :
    Calls Try.prog 7 #[(.agg #[.int .i64 (a), .int .i64 (b)])] w fun e w' => e = .returned (.bool true) ∧ Below w.heap.size w w' := by
  go_enter Try.func7, Try.ntmps7
  go_wp2_with fail
  refine (toInterval_any a b _).mono ?_
  rintro _ w1 ⟨rfl, b_w1⟩
  obtain ⟨c_w1, f_w1, z_w1⟩ := bfacts b_w1 (by first | (simp; rfl) | rfl); have y0_w1 : w.heap.size < w1.heap.size := (by omega); have k0_0_w1 : w1.cell? ⟨w.heap.size, 0, none⟩ = some (.int .i64 (a)) := (by first | exact (c_w1 _ _ (by omega)).trans (by go_simp) | go_simp); have l0_0_w1 : w1.frozen? ⟨w.heap.size, 0, none⟩ = false := (by first | exact (f_w1 _ _ (by omega)).trans (by go_simp) | go_simp); have k0_1_w1 : w1.cell? ⟨w.heap.size, 1, none⟩ = some (.int .i64 (b)) := (by first | exact (c_w1 _ _ (by omega)).trans (by go_simp) | go_simp); have l0_1_w1 : w1.frozen? ⟨w.heap.size, 1, none⟩ = false := (by first | exact (f_w1 _ _ (by omega)).trans (by go_simp) | go_simp); clear c_w1 f_w1
  go_wp2_with fail
  refine (sArcSineRange_any a b _).mono ?_
  rintro _ w2 ⟨rfl, b_w2⟩
  obtain ⟨c_w2, f_w2, z_w2⟩ := bfacts b_w2 (by first | (simp; rfl) | rfl); have y0_w2 : w.heap.size < w2.heap.size := (by omega); have k0_0_w2 : w2.cell? ⟨w.heap.size, 0, none⟩ = some (.int .i64 (a)) := (by first | exact (c_w2 _ _ (by omega)).trans (by go_simp) | go_simp); have l0_0_w2 : w2.frozen? ⟨w.heap.size, 0, none⟩ = false := (by first | exact (f_w2 _ _ (by omega)).trans (by go_simp) | go_simp); have k0_1_w2 : w2.cell? ⟨w.heap.size, 1, none⟩ = some (.int .i64 (b)) := (by first | exact (c_w2 _ _ (by omega)).trans (by go_simp) | go_simp); have l0_1_w2 : w2.frozen? ⟨w.heap.size, 1, none⟩ = false := (by first | exact (f_w2 _ _ (by omega)).trans (by go_simp) | go_simp); clear c_w2 f_w2
  go_wp2_with fail
  refine (toInterval_any a b _).mono ?_
  rintro _ w3 ⟨rfl, b_w3⟩
  obtain ⟨c_w3, f_w3, z_w3⟩ := bfacts b_w3 (by first | (simp; rfl) | rfl); have y0_w3 : w.heap.size < w3.heap.size := (by omega); have y1_w3 : w2.heap.size < w3.heap.size := (by omega); have k0_0_w3 : w3.cell? ⟨w.heap.size, 0, none⟩ = some (.int .i64 (a)) := (by first | exact (c_w3 _ _ (by omega)).trans (by go_simp) | go_simp); have l0_0_w3 : w3.frozen? ⟨w.heap.size, 0, none⟩ = false := (by first | exact (f_w3 _ _ (by omega)).trans (by go_simp) | go_simp); have k0_1_w3 : w3.cell? ⟨w.heap.size, 1, none⟩ = some (.int .i64 (b)) := (by first | exact (c_w3 _ _ (by omega)).trans (by go_simp) | go_simp); have l0_1_w3 : w3.frozen? ⟨w.heap.size, 1, none⟩ = false := (by first | exact (f_w3 _ _ (by omega)).trans (by go_simp) | go_simp); have k1_0_w3 : w3.cell? ⟨w2.heap.size, 0, none⟩ = some (.int .i64 ((asI a b).lo)) := (by first | exact (c_w3 _ _ (by omega)).trans (by go_simp) | go_simp); have l1_0_w3 : w3.frozen? ⟨w2.heap.size, 0, none⟩ = false := (by first | exact (f_w3 _ _ (by omega)).trans (by go_simp) | go_simp); have k1_1_w3 : w3.cell? ⟨w2.heap.size, 1, none⟩ = some (.int .i64 ((asI a b).hi)) := (by first | exact (c_w3 _ _ (by omega)).trans (by go_simp) | go_simp); have l1_1_w3 : w3.frozen? ⟨w2.heap.size, 1, none⟩ = false := (by first | exact (f_w3 _ _ (by omega)).trans (by go_simp) | go_simp); clear c_w3 f_w3
  go_wp2_with fail
  refine (ArcSineRange_any a b _).mono ?_
  rintro _ w4 ⟨rfl, b_w4⟩
  obtain ⟨c_w4, f_w4, z_w4⟩ := bfacts b_w4 (by first | (simp; rfl) | rfl); have y0_w4 : w2.heap.size < w4.heap.size := (by omega); have k0_0_w4 : w4.cell? ⟨w2.heap.size, 0, none⟩ = some (.int .i64 ((asI a b).lo)) := (by first | exact (c_w4 _ _ (by omega)).trans (by go_simp) | go_simp); have l0_0_w4 : w4.frozen? ⟨w2.heap.size, 0, none⟩ = false := (by first | exact (f_w4 _ _ (by omega)).trans (by go_simp) | go_simp); have k0_1_w4 : w4.cell? ⟨w2.heap.size, 1, none⟩ = some (.int .i64 ((asI a b).hi)) := (by first | exact (c_w4 _ _ (by omega)).trans (by go_simp) | go_simp); have l0_1_w4 : w4.frozen? ⟨w2.heap.size, 1, none⟩ = false := (by first | exact (f_w4 _ _ (by omega)).trans (by go_simp) | go_simp); clear c_w4 f_w4
  go_wp2_with (go_at_call 16; refine (eqInterval_same _ _ _).mono ?_; rintro e w5 ⟨rfl, b_w5⟩; obtain ⟨c_w5, f_w5, z_w5⟩ := bfacts b_w5 (by first | (simp; rfl) | rfl))
  go_ret
  exact ⟨rfl, by (repeat' (first | with_reducible exact Below.refl _ _ | with_reducible refine Below.setCell ?_ ?_ _ | with_reducible refine Below.drew ?_ | with_reducible refine below_drewN ?_ _ | with_reducible refine Below.alloc ?_ ?_ _ | with_reducible refine below_step b_w5 ?_ ?_ | with_reducible refine below_step b_w4 ?_ ?_ | with_reducible refine below_step b_w3 ?_ ?_ | with_reducible refine below_step b_w2 ?_ ?_ | with_reducible refine below_step b_w1 ?_ ?_ | omega | (simp; done) | (simp; omega)))⟩
set_option maxRecDepth 100000 in
theorem lifted_FnExactArcSineRange (os : Os) (started : os.Started) (H : Type) (enc : TypeId × Value → H) :
    ReturnsInHanded {} Try.checked os 7 .any (Rows.fnExactArcSineRangeSpec.pre6 enc Try.prog Try.f7 Rows.fnExactArcSineRangeRow.domain false) (Rows.fnExactArcSineRangeSpec.post enc Try.prog Try.f7 false true false false) := by
  refine returnsInHanded_of_change (C := Try.checked) prog_own started (by kernel_rfl) Try.func7
    (ChangeSpec.witness6 (enc := enc) (C := Try.checked) false ⟨#[], #[.agg #[.int .i64 0, .int .i64 0]], []⟩ 8 (by kernel_rfl) (by kernel_rfl) (by kernel_rfl) (by kernel_rfl)) ?_
  intro W base args ds gs before hval0 hW hcnd _
  have hval : ∀ (j : Nat) t v, Try.f7.params[j]? = some t → args[j]? = some v → Value.okWide Try.prog W .any base t v := hval0
  have hW' := hW
  obtain ⟨p, q, hA0, hV, rfl, hfz, hnd⟩ := hW
  have hA : DataW.TrodAll enc Try.prog W 0 (fun _ => true) true Try.f7.params.toList args.toList ds p := hA0
  rw [Try.params7] at hA hval
  obtain ⟨v0, vs0, d0, ds0, p0, q0, hargs, rfl, rfl, h0, r0⟩ := trodAll_cons hA
  obtain ⟨rfl, rfl, rfl⟩ := trodAll_nil r0
  obtain rfl : args = #[v0] := by cases args; simp_all
  obtain ⟨rfl, rfl⟩ := trodVars_none hV
  obtain ⟨rfl, cs0, rfl, sz0, hi0⟩ := open_i64s (k := 4) Try.underlying40 (by kernel_rfl) (hval 0 40 v0 rfl rfl) h0
  obtain ⟨a0, a1, rfl, wa0, wa1⟩ := ints2 (sz0.trans (by kernel_rfl)) hi0
  clear hA0 hval0
  simp only [List.append_nil] at hW'
  refine (walk_FnExactArcSineRange a0 a1 (bounds_i64 wa0) (bounds_i64 wa1) W).mono fun e W' ⟨he, hb⟩ => ?_
  subst he
  exact ⟨_, rfl, post_of_below (pa := []) (pv := []) hW' (fun _ _ _ => (trodAll_cons_mk (shut_bool Try.underlying4 _) trodAll_mk0)) (fun sp _ => (trodAll_cons_mk (Trod_i64_any (k := 4) (by kernel_rfl) h0) (trodAll_mk0))) (fun _ _ => rfl) rfl hb (ok_one (by kernel_rfl) rfl (okWide_bool_mk Try.underlying4 _))⟩

theorem FnExactArcSineRange_holds : Rows.FnExactArcSineRangeSaid :=
  OpenClaim.holds_of_wide 7 Try.f7 rfl rfl rfl rfl rfl rfl rfl ⟨rfl, rfl, rfl, rfl, rfl⟩ rfl rfl rfl rfl rfl (by kernel_rfl) Try.func7 (by kernel_rfl)
    (of_decide_eq_true (by kernel_rfl)) (by unfold Func.isWrapper; first | (rw [if_pos (by decide +kernel)]; kernel_rfl) | (rw [if_neg (by decide +kernel)]; exact ⟨rfl, rfl⟩))
    (fun os started H enc _ => lifted_FnExactArcSineRange os started H enc)

#print axioms FnExactArcSineRange_holds

set_option maxHeartbeats 400000 in
theorem walk_FnExactIsSearch (a b c d e : Int) (_ : -9223372036854775808 ≤ a ∧ a ≤ 9223372036854775807) (_ : -9223372036854775808 ≤ b ∧ b ≤ 9223372036854775807) (_ : -9223372036854775808 ≤ c ∧ c ≤ 9223372036854775807) (_ : -9223372036854775808 ≤ d ∧ d ≤ 9223372036854775807) (_ : -9223372036854775808 ≤ e ∧ e ≤ 9223372036854775807) (w : World) :
    Calls Try.prog 3 #[(.agg #[.int .i64 (a), .int .i64 (b), .int .i64 (c), .int .i64 (d), .int .i64 (e)])] w fun e w' => e = .returned (.bool true) ∧ Below w.heap.size w w' := by
  go_enter Try.func3, Try.ntmps3
  go_wp2_with fail
  refine (toSearch_any a b c d e _).mono ?_
  rintro _ w1 ⟨rfl, b_w1⟩
  obtain ⟨c_w1, f_w1, z_w1⟩ := bfacts b_w1 (by first | (simp; rfl) | rfl); have y0_w1 : w.heap.size < w1.heap.size := (by omega); have k0_0_w1 : w1.cell? ⟨w.heap.size, 0, none⟩ = some (.int .i64 (a)) := (by first | exact (c_w1 _ _ (by omega)).trans (by go_simp) | go_simp); have l0_0_w1 : w1.frozen? ⟨w.heap.size, 0, none⟩ = false := (by first | exact (f_w1 _ _ (by omega)).trans (by go_simp) | go_simp); have k0_1_w1 : w1.cell? ⟨w.heap.size, 1, none⟩ = some (.int .i64 (b)) := (by first | exact (c_w1 _ _ (by omega)).trans (by go_simp) | go_simp); have l0_1_w1 : w1.frozen? ⟨w.heap.size, 1, none⟩ = false := (by first | exact (f_w1 _ _ (by omega)).trans (by go_simp) | go_simp); have k0_2_w1 : w1.cell? ⟨w.heap.size, 2, none⟩ = some (.int .i64 (c)) := (by first | exact (c_w1 _ _ (by omega)).trans (by go_simp) | go_simp); have l0_2_w1 : w1.frozen? ⟨w.heap.size, 2, none⟩ = false := (by first | exact (f_w1 _ _ (by omega)).trans (by go_simp) | go_simp); have k0_3_w1 : w1.cell? ⟨w.heap.size, 3, none⟩ = some (.int .i64 (d)) := (by first | exact (c_w1 _ _ (by omega)).trans (by go_simp) | go_simp); have l0_3_w1 : w1.frozen? ⟨w.heap.size, 3, none⟩ = false := (by first | exact (f_w1 _ _ (by omega)).trans (by go_simp) | go_simp); have k0_4_w1 : w1.cell? ⟨w.heap.size, 4, none⟩ = some (.int .i64 (e)) := (by first | exact (c_w1 _ _ (by omega)).trans (by go_simp) | go_simp); have l0_4_w1 : w1.frozen? ⟨w.heap.size, 4, none⟩ = false := (by first | exact (f_w1 _ _ (by omega)).trans (by go_simp) | go_simp); clear c_w1 f_w1
  go_wp2_with fail
  refine (sIsSearch_any a b c d e _).mono ?_
  rintro _ w2 ⟨rfl, b_w2⟩
  obtain ⟨c_w2, f_w2, z_w2⟩ := bfacts b_w2 (by first | (simp; rfl) | rfl); have y0_w2 : w.heap.size < w2.heap.size := (by omega); have k0_0_w2 : w2.cell? ⟨w.heap.size, 0, none⟩ = some (.int .i64 (a)) := (by first | exact (c_w2 _ _ (by omega)).trans (by go_simp) | go_simp); have l0_0_w2 : w2.frozen? ⟨w.heap.size, 0, none⟩ = false := (by first | exact (f_w2 _ _ (by omega)).trans (by go_simp) | go_simp); have k0_1_w2 : w2.cell? ⟨w.heap.size, 1, none⟩ = some (.int .i64 (b)) := (by first | exact (c_w2 _ _ (by omega)).trans (by go_simp) | go_simp); have l0_1_w2 : w2.frozen? ⟨w.heap.size, 1, none⟩ = false := (by first | exact (f_w2 _ _ (by omega)).trans (by go_simp) | go_simp); have k0_2_w2 : w2.cell? ⟨w.heap.size, 2, none⟩ = some (.int .i64 (c)) := (by first | exact (c_w2 _ _ (by omega)).trans (by go_simp) | go_simp); have l0_2_w2 : w2.frozen? ⟨w.heap.size, 2, none⟩ = false := (by first | exact (f_w2 _ _ (by omega)).trans (by go_simp) | go_simp); have k0_3_w2 : w2.cell? ⟨w.heap.size, 3, none⟩ = some (.int .i64 (d)) := (by first | exact (c_w2 _ _ (by omega)).trans (by go_simp) | go_simp); have l0_3_w2 : w2.frozen? ⟨w.heap.size, 3, none⟩ = false := (by first | exact (f_w2 _ _ (by omega)).trans (by go_simp) | go_simp); have k0_4_w2 : w2.cell? ⟨w.heap.size, 4, none⟩ = some (.int .i64 (e)) := (by first | exact (c_w2 _ _ (by omega)).trans (by go_simp) | go_simp); have l0_4_w2 : w2.frozen? ⟨w.heap.size, 4, none⟩ = false := (by first | exact (f_w2 _ _ (by omega)).trans (by go_simp) | go_simp); clear c_w2 f_w2
  go_wp2_with fail
  refine (toSearch_any a b c d e _).mono ?_
  rintro _ w3 ⟨rfl, b_w3⟩
  obtain ⟨c_w3, f_w3, z_w3⟩ := bfacts b_w3 (by first | (simp; rfl) | rfl); have y0_w3 : w.heap.size < w3.heap.size := (by omega); have k0_0_w3 : w3.cell? ⟨w.heap.size, 0, none⟩ = some (.int .i64 (a)) := (by first | exact (c_w3 _ _ (by omega)).trans (by go_simp) | go_simp); have l0_0_w3 : w3.frozen? ⟨w.heap.size, 0, none⟩ = false := (by first | exact (f_w3 _ _ (by omega)).trans (by go_simp) | go_simp); have k0_1_w3 : w3.cell? ⟨w.heap.size, 1, none⟩ = some (.int .i64 (b)) := (by first | exact (c_w3 _ _ (by omega)).trans (by go_simp) | go_simp); have l0_1_w3 : w3.frozen? ⟨w.heap.size, 1, none⟩ = false := (by first | exact (f_w3 _ _ (by omega)).trans (by go_simp) | go_simp); have k0_2_w3 : w3.cell? ⟨w.heap.size, 2, none⟩ = some (.int .i64 (c)) := (by first | exact (c_w3 _ _ (by omega)).trans (by go_simp) | go_simp); have l0_2_w3 : w3.frozen? ⟨w.heap.size, 2, none⟩ = false := (by first | exact (f_w3 _ _ (by omega)).trans (by go_simp) | go_simp); have k0_3_w3 : w3.cell? ⟨w.heap.size, 3, none⟩ = some (.int .i64 (d)) := (by first | exact (c_w3 _ _ (by omega)).trans (by go_simp) | go_simp); have l0_3_w3 : w3.frozen? ⟨w.heap.size, 3, none⟩ = false := (by first | exact (f_w3 _ _ (by omega)).trans (by go_simp) | go_simp); have k0_4_w3 : w3.cell? ⟨w.heap.size, 4, none⟩ = some (.int .i64 (e)) := (by first | exact (c_w3 _ _ (by omega)).trans (by go_simp) | go_simp); have l0_4_w3 : w3.frozen? ⟨w.heap.size, 4, none⟩ = false := (by first | exact (f_w3 _ _ (by omega)).trans (by go_simp) | go_simp); clear c_w3 f_w3
  go_wp2_with fail
  refine (IsSearch_any a b c d e _).mono ?_
  rintro _ w4 ⟨rfl, b_w4⟩
  go_wp2
  go_ret
  exact ⟨rfl, by (repeat' (first | with_reducible exact Below.refl _ _ | with_reducible refine Below.setCell ?_ ?_ _ | with_reducible refine Below.drew ?_ | with_reducible refine below_drewN ?_ _ | with_reducible refine Below.alloc ?_ ?_ _ | with_reducible refine below_step b_w4 ?_ ?_ | with_reducible refine below_step b_w3 ?_ ?_ | with_reducible refine below_step b_w2 ?_ ?_ | with_reducible refine below_step b_w1 ?_ ?_ | omega | (simp; done) | (simp; omega)))⟩
set_option maxRecDepth 100000 in
theorem lifted_FnExactIsSearch (os : Os) (started : os.Started) (H : Type) (enc : TypeId × Value → H) :
    ReturnsInHanded {} Try.checked os 3 .any (Rows.fnExactIsSearchSpec.pre6 enc Try.prog Try.f3 Rows.fnExactIsSearchRow.domain false) (Rows.fnExactIsSearchSpec.post enc Try.prog Try.f3 false true false false) := by
  refine returnsInHanded_of_change (C := Try.checked) prog_own started (by kernel_rfl) Try.func3
    (ChangeSpec.witness6 (enc := enc) (C := Try.checked) false ⟨#[], #[.agg #[.int .i64 0, .int .i64 0, .int .i64 0, .int .i64 0, .int .i64 0]], []⟩ 8 (by kernel_rfl) (by kernel_rfl) (by kernel_rfl) (by kernel_rfl)) ?_
  intro W base args ds gs before hval0 hW hcnd _
  have hval : ∀ (j : Nat) t v, Try.f3.params[j]? = some t → args[j]? = some v → Value.okWide Try.prog W .any base t v := hval0
  have hW' := hW
  obtain ⟨p, q, hA0, hV, rfl, hfz, hnd⟩ := hW
  have hA : DataW.TrodAll enc Try.prog W 0 (fun _ => true) true Try.f3.params.toList args.toList ds p := hA0
  rw [Try.params3] at hA hval
  obtain ⟨v0, vs0, d0, ds0, p0, q0, hargs, rfl, rfl, h0, r0⟩ := trodAll_cons hA
  obtain ⟨rfl, rfl, rfl⟩ := trodAll_nil r0
  obtain rfl : args = #[v0] := by cases args; simp_all
  obtain ⟨rfl, rfl⟩ := trodVars_none hV
  obtain ⟨rfl, cs0, rfl, sz0, hi0⟩ := open_i64s (k := 4) Try.underlying25 (by kernel_rfl) (hval 0 25 v0 rfl rfl) h0
  obtain ⟨a0, a1, a2, a3, a4, rfl, wa0, wa1, wa2, wa3, wa4⟩ := ints5 (sz0.trans (by kernel_rfl)) hi0
  clear hA0 hval0
  simp only [List.append_nil] at hW'
  refine (walk_FnExactIsSearch a0 a1 a2 a3 a4 (bounds_i64 wa0) (bounds_i64 wa1) (bounds_i64 wa2) (bounds_i64 wa3) (bounds_i64 wa4) W).mono fun e W' ⟨he, hb⟩ => ?_
  subst he
  exact ⟨_, rfl, post_of_below (pa := []) (pv := []) hW' (fun _ _ _ => (trodAll_cons_mk (shut_bool Try.underlying4 _) trodAll_mk0)) (fun sp _ => (trodAll_cons_mk (Trod_i64_any (k := 4) (by kernel_rfl) h0) (trodAll_mk0))) (fun _ _ => rfl) rfl hb (ok_one (by kernel_rfl) rfl (okWide_bool_mk Try.underlying4 _))⟩

theorem FnExactIsSearch_holds : Rows.FnExactIsSearchSaid :=
  OpenClaim.holds_of_wide 3 Try.f3 rfl rfl rfl rfl rfl rfl rfl ⟨rfl, rfl, rfl, rfl, rfl⟩ rfl rfl rfl rfl rfl (by kernel_rfl) Try.func3 (by kernel_rfl)
    (of_decide_eq_true (by kernel_rfl)) (by unfold Func.isWrapper; first | (rw [if_pos (by decide +kernel)]; kernel_rfl) | (rw [if_neg (by decide +kernel)]; exact ⟨rfl, rfl⟩))
    (fun os started H enc _ => lifted_FnExactIsSearch os started H enc)

#print axioms FnExactIsSearch_holds

set_option maxHeartbeats 400000 in
theorem walk_FnExactCountWalls (a b c d e : Int) (_ : -9223372036854775808 ≤ a ∧ a ≤ 9223372036854775807) (_ : -9223372036854775808 ≤ b ∧ b ≤ 9223372036854775807) (_ : -9223372036854775808 ≤ c ∧ c ≤ 9223372036854775807) (_ : -9223372036854775808 ≤ d ∧ d ≤ 9223372036854775807) (_ : -9223372036854775808 ≤ e ∧ e ≤ 9223372036854775807) (w : World) :
    Calls Try.prog 4 #[(.agg #[.int .i64 (a), .int .i64 (b), .int .i64 (c), .int .i64 (d), .int .i64 (e)])] w fun e w' => e = .returned (.bool true) ∧ Below w.heap.size w w' := by
  have s1 := fun w => sCountWalls_any a b c d e w
  have i1 := fun w => CountWalls_any a b c d e w
  generalize (if seB a b c d e = true then ctM a b c d e else 0) = r0 at s1 i1
  generalize (if seB a b c d e = true then (0 : Int) else 1) = r1 at s1 i1
  have S1 := Lib.hid s1; have I1 := Lib.hid i1; clear s1 i1
  go_enter Try.func4, Try.ntmps4
  go_wp2_with fail
  refine (toSearch_any a b c d e _).mono ?_
  rintro _ w1 ⟨rfl, b_w1⟩
  obtain ⟨c_w1, f_w1, z_w1⟩ := bfacts b_w1 (by first | (simp; rfl) | rfl); have y0_w1 : w.heap.size < w1.heap.size := (by omega); have k0_0_w1 : w1.cell? ⟨w.heap.size, 0, none⟩ = some (.int .i64 (a)) := (by first | exact (c_w1 _ _ (by omega)).trans (by go_simp) | go_simp); have l0_0_w1 : w1.frozen? ⟨w.heap.size, 0, none⟩ = false := (by first | exact (f_w1 _ _ (by omega)).trans (by go_simp) | go_simp); have k0_1_w1 : w1.cell? ⟨w.heap.size, 1, none⟩ = some (.int .i64 (b)) := (by first | exact (c_w1 _ _ (by omega)).trans (by go_simp) | go_simp); have l0_1_w1 : w1.frozen? ⟨w.heap.size, 1, none⟩ = false := (by first | exact (f_w1 _ _ (by omega)).trans (by go_simp) | go_simp); have k0_2_w1 : w1.cell? ⟨w.heap.size, 2, none⟩ = some (.int .i64 (c)) := (by first | exact (c_w1 _ _ (by omega)).trans (by go_simp) | go_simp); have l0_2_w1 : w1.frozen? ⟨w.heap.size, 2, none⟩ = false := (by first | exact (f_w1 _ _ (by omega)).trans (by go_simp) | go_simp); have k0_3_w1 : w1.cell? ⟨w.heap.size, 3, none⟩ = some (.int .i64 (d)) := (by first | exact (c_w1 _ _ (by omega)).trans (by go_simp) | go_simp); have l0_3_w1 : w1.frozen? ⟨w.heap.size, 3, none⟩ = false := (by first | exact (f_w1 _ _ (by omega)).trans (by go_simp) | go_simp); have k0_4_w1 : w1.cell? ⟨w.heap.size, 4, none⟩ = some (.int .i64 (e)) := (by first | exact (c_w1 _ _ (by omega)).trans (by go_simp) | go_simp); have l0_4_w1 : w1.frozen? ⟨w.heap.size, 4, none⟩ = false := (by first | exact (f_w1 _ _ (by omega)).trans (by go_simp) | go_simp); clear c_w1 f_w1
  go_wp2_with fail
  refine (S1.out _).mono ?_
  rintro _ w2 ⟨rfl, b_w2⟩
  obtain ⟨c_w2, f_w2, z_w2⟩ := bfacts b_w2 (by first | (simp; rfl) | rfl); have y0_w2 : w.heap.size < w2.heap.size := (by omega); have k0_0_w2 : w2.cell? ⟨w.heap.size, 0, none⟩ = some (.int .i64 (a)) := (by first | exact (c_w2 _ _ (by omega)).trans (by go_simp) | go_simp); have l0_0_w2 : w2.frozen? ⟨w.heap.size, 0, none⟩ = false := (by first | exact (f_w2 _ _ (by omega)).trans (by go_simp) | go_simp); have k0_1_w2 : w2.cell? ⟨w.heap.size, 1, none⟩ = some (.int .i64 (b)) := (by first | exact (c_w2 _ _ (by omega)).trans (by go_simp) | go_simp); have l0_1_w2 : w2.frozen? ⟨w.heap.size, 1, none⟩ = false := (by first | exact (f_w2 _ _ (by omega)).trans (by go_simp) | go_simp); have k0_2_w2 : w2.cell? ⟨w.heap.size, 2, none⟩ = some (.int .i64 (c)) := (by first | exact (c_w2 _ _ (by omega)).trans (by go_simp) | go_simp); have l0_2_w2 : w2.frozen? ⟨w.heap.size, 2, none⟩ = false := (by first | exact (f_w2 _ _ (by omega)).trans (by go_simp) | go_simp); have k0_3_w2 : w2.cell? ⟨w.heap.size, 3, none⟩ = some (.int .i64 (d)) := (by first | exact (c_w2 _ _ (by omega)).trans (by go_simp) | go_simp); have l0_3_w2 : w2.frozen? ⟨w.heap.size, 3, none⟩ = false := (by first | exact (f_w2 _ _ (by omega)).trans (by go_simp) | go_simp); have k0_4_w2 : w2.cell? ⟨w.heap.size, 4, none⟩ = some (.int .i64 (e)) := (by first | exact (c_w2 _ _ (by omega)).trans (by go_simp) | go_simp); have l0_4_w2 : w2.frozen? ⟨w.heap.size, 4, none⟩ = false := (by first | exact (f_w2 _ _ (by omega)).trans (by go_simp) | go_simp); clear c_w2 f_w2
  go_wp2_with fail
  refine (toSearch_any a b c d e _).mono ?_
  rintro _ w3 ⟨rfl, b_w3⟩
  obtain ⟨c_w3, f_w3, z_w3⟩ := bfacts b_w3 (by first | (simp; rfl) | rfl); have y0_w3 : w.heap.size < w3.heap.size := (by omega); have k0_0_w3 : w3.cell? ⟨w.heap.size, 0, none⟩ = some (.int .i64 (a)) := (by first | exact (c_w3 _ _ (by omega)).trans (by go_simp) | go_simp); have l0_0_w3 : w3.frozen? ⟨w.heap.size, 0, none⟩ = false := (by first | exact (f_w3 _ _ (by omega)).trans (by go_simp) | go_simp); have k0_1_w3 : w3.cell? ⟨w.heap.size, 1, none⟩ = some (.int .i64 (b)) := (by first | exact (c_w3 _ _ (by omega)).trans (by go_simp) | go_simp); have l0_1_w3 : w3.frozen? ⟨w.heap.size, 1, none⟩ = false := (by first | exact (f_w3 _ _ (by omega)).trans (by go_simp) | go_simp); have k0_2_w3 : w3.cell? ⟨w.heap.size, 2, none⟩ = some (.int .i64 (c)) := (by first | exact (c_w3 _ _ (by omega)).trans (by go_simp) | go_simp); have l0_2_w3 : w3.frozen? ⟨w.heap.size, 2, none⟩ = false := (by first | exact (f_w3 _ _ (by omega)).trans (by go_simp) | go_simp); have k0_3_w3 : w3.cell? ⟨w.heap.size, 3, none⟩ = some (.int .i64 (d)) := (by first | exact (c_w3 _ _ (by omega)).trans (by go_simp) | go_simp); have l0_3_w3 : w3.frozen? ⟨w.heap.size, 3, none⟩ = false := (by first | exact (f_w3 _ _ (by omega)).trans (by go_simp) | go_simp); have k0_4_w3 : w3.cell? ⟨w.heap.size, 4, none⟩ = some (.int .i64 (e)) := (by first | exact (c_w3 _ _ (by omega)).trans (by go_simp) | go_simp); have l0_4_w3 : w3.frozen? ⟨w.heap.size, 4, none⟩ = false := (by first | exact (f_w3 _ _ (by omega)).trans (by go_simp) | go_simp); clear c_w3 f_w3
  go_wp2_with fail
  refine (I1.out _).mono ?_
  rintro _ w4 ⟨rfl, b_w4⟩
  go_wp2
  go_ret
  exact ⟨rfl, by (repeat' (first | with_reducible exact Below.refl _ _ | with_reducible refine Below.setCell ?_ ?_ _ | with_reducible refine Below.drew ?_ | with_reducible refine below_drewN ?_ _ | with_reducible refine Below.alloc ?_ ?_ _ | with_reducible refine below_step b_w4 ?_ ?_ | with_reducible refine below_step b_w3 ?_ ?_ | with_reducible refine below_step b_w2 ?_ ?_ | with_reducible refine below_step b_w1 ?_ ?_ | omega | (simp; done) | (simp; omega)))⟩
set_option maxRecDepth 100000 in
theorem lifted_FnExactCountWalls (os : Os) (started : os.Started) (H : Type) (enc : TypeId × Value → H) :
    ReturnsInHanded {} Try.checked os 4 .any (Rows.fnExactCountWallsSpec.pre6 enc Try.prog Try.f4 Rows.fnExactCountWallsRow.domain false) (Rows.fnExactCountWallsSpec.post enc Try.prog Try.f4 false true false false) := by
  refine returnsInHanded_of_change (C := Try.checked) prog_own started (by kernel_rfl) Try.func4
    (ChangeSpec.witness6 (enc := enc) (C := Try.checked) false ⟨#[], #[.agg #[.int .i64 0, .int .i64 0, .int .i64 0, .int .i64 0, .int .i64 0]], []⟩ 8 (by kernel_rfl) (by kernel_rfl) (by kernel_rfl) (by kernel_rfl)) ?_
  intro W base args ds gs before hval0 hW hcnd _
  have hval : ∀ (j : Nat) t v, Try.f4.params[j]? = some t → args[j]? = some v → Value.okWide Try.prog W .any base t v := hval0
  have hW' := hW
  obtain ⟨p, q, hA0, hV, rfl, hfz, hnd⟩ := hW
  have hA : DataW.TrodAll enc Try.prog W 0 (fun _ => true) true Try.f4.params.toList args.toList ds p := hA0
  rw [Try.params4] at hA hval
  obtain ⟨v0, vs0, d0, ds0, p0, q0, hargs, rfl, rfl, h0, r0⟩ := trodAll_cons hA
  obtain ⟨rfl, rfl, rfl⟩ := trodAll_nil r0
  obtain rfl : args = #[v0] := by cases args; simp_all
  obtain ⟨rfl, rfl⟩ := trodVars_none hV
  obtain ⟨rfl, cs0, rfl, sz0, hi0⟩ := open_i64s (k := 4) Try.underlying25 (by kernel_rfl) (hval 0 25 v0 rfl rfl) h0
  obtain ⟨a0, a1, a2, a3, a4, rfl, wa0, wa1, wa2, wa3, wa4⟩ := ints5 (sz0.trans (by kernel_rfl)) hi0
  clear hA0 hval0
  simp only [List.append_nil] at hW'
  refine (walk_FnExactCountWalls a0 a1 a2 a3 a4 (bounds_i64 wa0) (bounds_i64 wa1) (bounds_i64 wa2) (bounds_i64 wa3) (bounds_i64 wa4) W).mono fun e W' ⟨he, hb⟩ => ?_
  subst he
  exact ⟨_, rfl, post_of_below (pa := []) (pv := []) hW' (fun _ _ _ => (trodAll_cons_mk (shut_bool Try.underlying4 _) trodAll_mk0)) (fun sp _ => (trodAll_cons_mk (Trod_i64_any (k := 4) (by kernel_rfl) h0) (trodAll_mk0))) (fun _ _ => rfl) rfl hb (ok_one (by kernel_rfl) rfl (okWide_bool_mk Try.underlying4 _))⟩

theorem FnExactCountWalls_holds : Rows.FnExactCountWallsSaid :=
  OpenClaim.holds_of_wide 4 Try.f4 rfl rfl rfl rfl rfl rfl rfl ⟨rfl, rfl, rfl, rfl, rfl⟩ rfl rfl rfl rfl rfl (by kernel_rfl) Try.func4 (by kernel_rfl)
    (of_decide_eq_true (by kernel_rfl)) (by unfold Func.isWrapper; first | (rw [if_pos (by decide +kernel)]; kernel_rfl) | (rw [if_neg (by decide +kernel)]; exact ⟨rfl, rfl⟩))
    (fun os started H enc _ => lifted_FnExactCountWalls os started H enc)

#print axioms FnExactCountWalls_holds

set_option maxHeartbeats 400000 in
theorem walk_FnExactAltitudeOf (a b c d e f : Int) (_ : -9223372036854775808 ≤ a ∧ a ≤ 9223372036854775807) (_ : -9223372036854775808 ≤ b ∧ b ≤ 9223372036854775807) (_ : -9223372036854775808 ≤ c ∧ c ≤ 9223372036854775807) (_ : -9223372036854775808 ≤ d ∧ d ≤ 9223372036854775807) (_ : -9223372036854775808 ≤ e ∧ e ≤ 9223372036854775807) (_ : -9223372036854775808 ≤ f ∧ f ≤ 9223372036854775807) (w : World) :
    Calls Try.prog 8 #[(.agg #[.int .i64 (a), .int .i64 (b), .int .i64 (c), .int .i64 (d), .int .i64 (e), .int .i64 (f)])] w fun e w' => e = .returned (.bool true) ∧ Below w.heap.size w w' := by
  cases p : veB a b c d e f
  · go_enter Try.func8, Try.ntmps8
    go_wp2_with fail
    refine (toVector_any a b c d e f _).mono ?_
    rintro _ w1 ⟨rfl, b_w1⟩
    obtain ⟨c_w1, f_w1, z_w1⟩ := bfacts b_w1 (by first | (simp; rfl) | rfl); have y0_w1 : w.heap.size < w1.heap.size := (by omega); have k0_0_w1 : w1.cell? ⟨w.heap.size, 0, none⟩ = some (.int .i64 (a)) := (by first | exact (c_w1 _ _ (by omega)).trans (by go_simp) | go_simp); have l0_0_w1 : w1.frozen? ⟨w.heap.size, 0, none⟩ = false := (by first | exact (f_w1 _ _ (by omega)).trans (by go_simp) | go_simp); have k0_1_w1 : w1.cell? ⟨w.heap.size, 1, none⟩ = some (.int .i64 (b)) := (by first | exact (c_w1 _ _ (by omega)).trans (by go_simp) | go_simp); have l0_1_w1 : w1.frozen? ⟨w.heap.size, 1, none⟩ = false := (by first | exact (f_w1 _ _ (by omega)).trans (by go_simp) | go_simp); have k0_2_w1 : w1.cell? ⟨w.heap.size, 2, none⟩ = some (.int .i64 (c)) := (by first | exact (c_w1 _ _ (by omega)).trans (by go_simp) | go_simp); have l0_2_w1 : w1.frozen? ⟨w.heap.size, 2, none⟩ = false := (by first | exact (f_w1 _ _ (by omega)).trans (by go_simp) | go_simp); have k0_3_w1 : w1.cell? ⟨w.heap.size, 3, none⟩ = some (.int .i64 (d)) := (by first | exact (c_w1 _ _ (by omega)).trans (by go_simp) | go_simp); have l0_3_w1 : w1.frozen? ⟨w.heap.size, 3, none⟩ = false := (by first | exact (f_w1 _ _ (by omega)).trans (by go_simp) | go_simp); have k0_4_w1 : w1.cell? ⟨w.heap.size, 4, none⟩ = some (.int .i64 (e)) := (by first | exact (c_w1 _ _ (by omega)).trans (by go_simp) | go_simp); have l0_4_w1 : w1.frozen? ⟨w.heap.size, 4, none⟩ = false := (by first | exact (f_w1 _ _ (by omega)).trans (by go_simp) | go_simp); have k0_5_w1 : w1.cell? ⟨w.heap.size, 5, none⟩ = some (.int .i64 (f)) := (by first | exact (c_w1 _ _ (by omega)).trans (by go_simp) | go_simp); have l0_5_w1 : w1.frozen? ⟨w.heap.size, 5, none⟩ = false := (by first | exact (f_w1 _ _ (by omega)).trans (by go_simp) | go_simp); clear c_w1 f_w1
    go_wp2_with fail
    refine (sAltitudeOf_no a b c d e f _ p).mono ?_
    rintro _ w2 ⟨rfl, b_w2⟩
    obtain ⟨c_w2, f_w2, z_w2⟩ := bfacts b_w2 (by first | (simp; rfl) | rfl); have y0_w2 : w.heap.size < w2.heap.size := (by omega); have k0_0_w2 : w2.cell? ⟨w.heap.size, 0, none⟩ = some (.int .i64 (a)) := (by first | exact (c_w2 _ _ (by omega)).trans (by go_simp) | go_simp); have l0_0_w2 : w2.frozen? ⟨w.heap.size, 0, none⟩ = false := (by first | exact (f_w2 _ _ (by omega)).trans (by go_simp) | go_simp); have k0_1_w2 : w2.cell? ⟨w.heap.size, 1, none⟩ = some (.int .i64 (b)) := (by first | exact (c_w2 _ _ (by omega)).trans (by go_simp) | go_simp); have l0_1_w2 : w2.frozen? ⟨w.heap.size, 1, none⟩ = false := (by first | exact (f_w2 _ _ (by omega)).trans (by go_simp) | go_simp); have k0_2_w2 : w2.cell? ⟨w.heap.size, 2, none⟩ = some (.int .i64 (c)) := (by first | exact (c_w2 _ _ (by omega)).trans (by go_simp) | go_simp); have l0_2_w2 : w2.frozen? ⟨w.heap.size, 2, none⟩ = false := (by first | exact (f_w2 _ _ (by omega)).trans (by go_simp) | go_simp); have k0_3_w2 : w2.cell? ⟨w.heap.size, 3, none⟩ = some (.int .i64 (d)) := (by first | exact (c_w2 _ _ (by omega)).trans (by go_simp) | go_simp); have l0_3_w2 : w2.frozen? ⟨w.heap.size, 3, none⟩ = false := (by first | exact (f_w2 _ _ (by omega)).trans (by go_simp) | go_simp); have k0_4_w2 : w2.cell? ⟨w.heap.size, 4, none⟩ = some (.int .i64 (e)) := (by first | exact (c_w2 _ _ (by omega)).trans (by go_simp) | go_simp); have l0_4_w2 : w2.frozen? ⟨w.heap.size, 4, none⟩ = false := (by first | exact (f_w2 _ _ (by omega)).trans (by go_simp) | go_simp); have k0_5_w2 : w2.cell? ⟨w.heap.size, 5, none⟩ = some (.int .i64 (f)) := (by first | exact (c_w2 _ _ (by omega)).trans (by go_simp) | go_simp); have l0_5_w2 : w2.frozen? ⟨w.heap.size, 5, none⟩ = false := (by first | exact (f_w2 _ _ (by omega)).trans (by go_simp) | go_simp); clear c_w2 f_w2
    go_wp2_with fail
    refine (toVector_any a b c d e f _).mono ?_
    rintro _ w3 ⟨rfl, b_w3⟩
    obtain ⟨c_w3, f_w3, z_w3⟩ := bfacts b_w3 (by first | (simp; rfl) | rfl); have y0_w3 : w.heap.size < w3.heap.size := (by omega); have y1_w3 : w2.heap.size < w3.heap.size := (by omega); have k0_0_w3 : w3.cell? ⟨w.heap.size, 0, none⟩ = some (.int .i64 (a)) := (by first | exact (c_w3 _ _ (by omega)).trans (by go_simp) | go_simp); have l0_0_w3 : w3.frozen? ⟨w.heap.size, 0, none⟩ = false := (by first | exact (f_w3 _ _ (by omega)).trans (by go_simp) | go_simp); have k0_1_w3 : w3.cell? ⟨w.heap.size, 1, none⟩ = some (.int .i64 (b)) := (by first | exact (c_w3 _ _ (by omega)).trans (by go_simp) | go_simp); have l0_1_w3 : w3.frozen? ⟨w.heap.size, 1, none⟩ = false := (by first | exact (f_w3 _ _ (by omega)).trans (by go_simp) | go_simp); have k0_2_w3 : w3.cell? ⟨w.heap.size, 2, none⟩ = some (.int .i64 (c)) := (by first | exact (c_w3 _ _ (by omega)).trans (by go_simp) | go_simp); have l0_2_w3 : w3.frozen? ⟨w.heap.size, 2, none⟩ = false := (by first | exact (f_w3 _ _ (by omega)).trans (by go_simp) | go_simp); have k0_3_w3 : w3.cell? ⟨w.heap.size, 3, none⟩ = some (.int .i64 (d)) := (by first | exact (c_w3 _ _ (by omega)).trans (by go_simp) | go_simp); have l0_3_w3 : w3.frozen? ⟨w.heap.size, 3, none⟩ = false := (by first | exact (f_w3 _ _ (by omega)).trans (by go_simp) | go_simp); have k0_4_w3 : w3.cell? ⟨w.heap.size, 4, none⟩ = some (.int .i64 (e)) := (by first | exact (c_w3 _ _ (by omega)).trans (by go_simp) | go_simp); have l0_4_w3 : w3.frozen? ⟨w.heap.size, 4, none⟩ = false := (by first | exact (f_w3 _ _ (by omega)).trans (by go_simp) | go_simp); have k0_5_w3 : w3.cell? ⟨w.heap.size, 5, none⟩ = some (.int .i64 (f)) := (by first | exact (c_w3 _ _ (by omega)).trans (by go_simp) | go_simp); have l0_5_w3 : w3.frozen? ⟨w.heap.size, 5, none⟩ = false := (by first | exact (f_w3 _ _ (by omega)).trans (by go_simp) | go_simp); have k1_0_w3 : w3.cell? ⟨w2.heap.size, 0, none⟩ = some (.int .i64 (0)) := (by first | exact (c_w3 _ _ (by omega)).trans (by go_simp) | go_simp); have l1_0_w3 : w3.frozen? ⟨w2.heap.size, 0, none⟩ = false := (by first | exact (f_w3 _ _ (by omega)).trans (by go_simp) | go_simp); have k1_1_w3 : w3.cell? ⟨w2.heap.size, 1, none⟩ = some (.int .i64 (0)) := (by first | exact (c_w3 _ _ (by omega)).trans (by go_simp) | go_simp); have l1_1_w3 : w3.frozen? ⟨w2.heap.size, 1, none⟩ = false := (by first | exact (f_w3 _ _ (by omega)).trans (by go_simp) | go_simp); clear c_w3 f_w3
    go_wp2_with fail
    refine (AltitudeOf_no a b c d e f _ p).mono ?_
    rintro _ w4 ⟨rfl, b_w4⟩
    obtain ⟨c_w4, f_w4, z_w4⟩ := bfacts b_w4 (by first | (simp; rfl) | rfl); have y0_w4 : w2.heap.size < w4.heap.size := (by omega); have k0_0_w4 : w4.cell? ⟨w2.heap.size, 0, none⟩ = some (.int .i64 (0)) := (by first | exact (c_w4 _ _ (by omega)).trans (by go_simp) | go_simp); have l0_0_w4 : w4.frozen? ⟨w2.heap.size, 0, none⟩ = false := (by first | exact (f_w4 _ _ (by omega)).trans (by go_simp) | go_simp); have k0_1_w4 : w4.cell? ⟨w2.heap.size, 1, none⟩ = some (.int .i64 (0)) := (by first | exact (c_w4 _ _ (by omega)).trans (by go_simp) | go_simp); have l0_1_w4 : w4.frozen? ⟨w2.heap.size, 1, none⟩ = false := (by first | exact (f_w4 _ _ (by omega)).trans (by go_simp) | go_simp); clear c_w4 f_w4
    go_wp2_with (go_at_call 16; refine (eqInterval_same _ _ _).mono ?_; rintro e w5 ⟨rfl, b_w5⟩; obtain ⟨c_w5, f_w5, z_w5⟩ := bfacts b_w5 (by first | (simp; rfl) | rfl))
    go_ret
    exact ⟨rfl, by (repeat' (first | with_reducible exact Below.refl _ _ | with_reducible refine Below.setCell ?_ ?_ _ | with_reducible refine Below.drew ?_ | with_reducible refine below_drewN ?_ _ | with_reducible refine Below.alloc ?_ ?_ _ | with_reducible refine below_step b_w5 ?_ ?_ | with_reducible refine below_step b_w4 ?_ ?_ | with_reducible refine below_step b_w3 ?_ ?_ | with_reducible refine below_step b_w2 ?_ ?_ | with_reducible refine below_step b_w1 ?_ ?_ | omega | (simp; done) | (simp; omega)))⟩
  · go_enter Try.func8, Try.ntmps8
    go_wp2_with fail
    refine (toVector_any a b c d e f _).mono ?_
    rintro _ w1 ⟨rfl, b_w1⟩
    obtain ⟨c_w1, f_w1, z_w1⟩ := bfacts b_w1 (by first | (simp; rfl) | rfl); have y0_w1 : w.heap.size < w1.heap.size := (by omega); have k0_0_w1 : w1.cell? ⟨w.heap.size, 0, none⟩ = some (.int .i64 (a)) := (by first | exact (c_w1 _ _ (by omega)).trans (by go_simp) | go_simp); have l0_0_w1 : w1.frozen? ⟨w.heap.size, 0, none⟩ = false := (by first | exact (f_w1 _ _ (by omega)).trans (by go_simp) | go_simp); have k0_1_w1 : w1.cell? ⟨w.heap.size, 1, none⟩ = some (.int .i64 (b)) := (by first | exact (c_w1 _ _ (by omega)).trans (by go_simp) | go_simp); have l0_1_w1 : w1.frozen? ⟨w.heap.size, 1, none⟩ = false := (by first | exact (f_w1 _ _ (by omega)).trans (by go_simp) | go_simp); have k0_2_w1 : w1.cell? ⟨w.heap.size, 2, none⟩ = some (.int .i64 (c)) := (by first | exact (c_w1 _ _ (by omega)).trans (by go_simp) | go_simp); have l0_2_w1 : w1.frozen? ⟨w.heap.size, 2, none⟩ = false := (by first | exact (f_w1 _ _ (by omega)).trans (by go_simp) | go_simp); have k0_3_w1 : w1.cell? ⟨w.heap.size, 3, none⟩ = some (.int .i64 (d)) := (by first | exact (c_w1 _ _ (by omega)).trans (by go_simp) | go_simp); have l0_3_w1 : w1.frozen? ⟨w.heap.size, 3, none⟩ = false := (by first | exact (f_w1 _ _ (by omega)).trans (by go_simp) | go_simp); have k0_4_w1 : w1.cell? ⟨w.heap.size, 4, none⟩ = some (.int .i64 (e)) := (by first | exact (c_w1 _ _ (by omega)).trans (by go_simp) | go_simp); have l0_4_w1 : w1.frozen? ⟨w.heap.size, 4, none⟩ = false := (by first | exact (f_w1 _ _ (by omega)).trans (by go_simp) | go_simp); have k0_5_w1 : w1.cell? ⟨w.heap.size, 5, none⟩ = some (.int .i64 (f)) := (by first | exact (c_w1 _ _ (by omega)).trans (by go_simp) | go_simp); have l0_5_w1 : w1.frozen? ⟨w.heap.size, 5, none⟩ = false := (by first | exact (f_w1 _ _ (by omega)).trans (by go_simp) | go_simp); clear c_w1 f_w1
    go_wp2_with fail
    refine (sAltitudeOf_yes a b c d e f _ p).mono ?_
    rintro _ w2 ⟨rfl, b_w2⟩
    obtain ⟨c_w2, f_w2, z_w2⟩ := bfacts b_w2 (by first | (simp; rfl) | rfl); have y0_w2 : w.heap.size < w2.heap.size := (by omega); have k0_0_w2 : w2.cell? ⟨w.heap.size, 0, none⟩ = some (.int .i64 (a)) := (by first | exact (c_w2 _ _ (by omega)).trans (by go_simp) | go_simp); have l0_0_w2 : w2.frozen? ⟨w.heap.size, 0, none⟩ = false := (by first | exact (f_w2 _ _ (by omega)).trans (by go_simp) | go_simp); have k0_1_w2 : w2.cell? ⟨w.heap.size, 1, none⟩ = some (.int .i64 (b)) := (by first | exact (c_w2 _ _ (by omega)).trans (by go_simp) | go_simp); have l0_1_w2 : w2.frozen? ⟨w.heap.size, 1, none⟩ = false := (by first | exact (f_w2 _ _ (by omega)).trans (by go_simp) | go_simp); have k0_2_w2 : w2.cell? ⟨w.heap.size, 2, none⟩ = some (.int .i64 (c)) := (by first | exact (c_w2 _ _ (by omega)).trans (by go_simp) | go_simp); have l0_2_w2 : w2.frozen? ⟨w.heap.size, 2, none⟩ = false := (by first | exact (f_w2 _ _ (by omega)).trans (by go_simp) | go_simp); have k0_3_w2 : w2.cell? ⟨w.heap.size, 3, none⟩ = some (.int .i64 (d)) := (by first | exact (c_w2 _ _ (by omega)).trans (by go_simp) | go_simp); have l0_3_w2 : w2.frozen? ⟨w.heap.size, 3, none⟩ = false := (by first | exact (f_w2 _ _ (by omega)).trans (by go_simp) | go_simp); have k0_4_w2 : w2.cell? ⟨w.heap.size, 4, none⟩ = some (.int .i64 (e)) := (by first | exact (c_w2 _ _ (by omega)).trans (by go_simp) | go_simp); have l0_4_w2 : w2.frozen? ⟨w.heap.size, 4, none⟩ = false := (by first | exact (f_w2 _ _ (by omega)).trans (by go_simp) | go_simp); have k0_5_w2 : w2.cell? ⟨w.heap.size, 5, none⟩ = some (.int .i64 (f)) := (by first | exact (c_w2 _ _ (by omega)).trans (by go_simp) | go_simp); have l0_5_w2 : w2.frozen? ⟨w.heap.size, 5, none⟩ = false := (by first | exact (f_w2 _ _ (by omega)).trans (by go_simp) | go_simp); clear c_w2 f_w2
    go_wp2_with fail
    refine (toVector_any a b c d e f _).mono ?_
    rintro _ w3 ⟨rfl, b_w3⟩
    obtain ⟨c_w3, f_w3, z_w3⟩ := bfacts b_w3 (by first | (simp; rfl) | rfl); have y0_w3 : w.heap.size < w3.heap.size := (by omega); have y1_w3 : w2.heap.size < w3.heap.size := (by omega); have k0_0_w3 : w3.cell? ⟨w.heap.size, 0, none⟩ = some (.int .i64 (a)) := (by first | exact (c_w3 _ _ (by omega)).trans (by go_simp) | go_simp); have l0_0_w3 : w3.frozen? ⟨w.heap.size, 0, none⟩ = false := (by first | exact (f_w3 _ _ (by omega)).trans (by go_simp) | go_simp); have k0_1_w3 : w3.cell? ⟨w.heap.size, 1, none⟩ = some (.int .i64 (b)) := (by first | exact (c_w3 _ _ (by omega)).trans (by go_simp) | go_simp); have l0_1_w3 : w3.frozen? ⟨w.heap.size, 1, none⟩ = false := (by first | exact (f_w3 _ _ (by omega)).trans (by go_simp) | go_simp); have k0_2_w3 : w3.cell? ⟨w.heap.size, 2, none⟩ = some (.int .i64 (c)) := (by first | exact (c_w3 _ _ (by omega)).trans (by go_simp) | go_simp); have l0_2_w3 : w3.frozen? ⟨w.heap.size, 2, none⟩ = false := (by first | exact (f_w3 _ _ (by omega)).trans (by go_simp) | go_simp); have k0_3_w3 : w3.cell? ⟨w.heap.size, 3, none⟩ = some (.int .i64 (d)) := (by first | exact (c_w3 _ _ (by omega)).trans (by go_simp) | go_simp); have l0_3_w3 : w3.frozen? ⟨w.heap.size, 3, none⟩ = false := (by first | exact (f_w3 _ _ (by omega)).trans (by go_simp) | go_simp); have k0_4_w3 : w3.cell? ⟨w.heap.size, 4, none⟩ = some (.int .i64 (e)) := (by first | exact (c_w3 _ _ (by omega)).trans (by go_simp) | go_simp); have l0_4_w3 : w3.frozen? ⟨w.heap.size, 4, none⟩ = false := (by first | exact (f_w3 _ _ (by omega)).trans (by go_simp) | go_simp); have k0_5_w3 : w3.cell? ⟨w.heap.size, 5, none⟩ = some (.int .i64 (f)) := (by first | exact (c_w3 _ _ (by omega)).trans (by go_simp) | go_simp); have l0_5_w3 : w3.frozen? ⟨w.heap.size, 5, none⟩ = false := (by first | exact (f_w3 _ _ (by omega)).trans (by go_simp) | go_simp); have k1_0_w3 : w3.cell? ⟨w2.heap.size, 0, none⟩ = some (.int .i64 ((asI e f).lo)) := (by first | exact (c_w3 _ _ (by omega)).trans (by go_simp) | go_simp); have l1_0_w3 : w3.frozen? ⟨w2.heap.size, 0, none⟩ = false := (by first | exact (f_w3 _ _ (by omega)).trans (by go_simp) | go_simp); have k1_1_w3 : w3.cell? ⟨w2.heap.size, 1, none⟩ = some (.int .i64 ((asI e f).hi)) := (by first | exact (c_w3 _ _ (by omega)).trans (by go_simp) | go_simp); have l1_1_w3 : w3.frozen? ⟨w2.heap.size, 1, none⟩ = false := (by first | exact (f_w3 _ _ (by omega)).trans (by go_simp) | go_simp); clear c_w3 f_w3
    go_wp2_with fail
    refine (AltitudeOf_yes a b c d e f _ p).mono ?_
    rintro _ w4 ⟨rfl, b_w4⟩
    obtain ⟨c_w4, f_w4, z_w4⟩ := bfacts b_w4 (by first | (simp; rfl) | rfl); have y0_w4 : w2.heap.size < w4.heap.size := (by omega); have k0_0_w4 : w4.cell? ⟨w2.heap.size, 0, none⟩ = some (.int .i64 ((asI e f).lo)) := (by first | exact (c_w4 _ _ (by omega)).trans (by go_simp) | go_simp); have l0_0_w4 : w4.frozen? ⟨w2.heap.size, 0, none⟩ = false := (by first | exact (f_w4 _ _ (by omega)).trans (by go_simp) | go_simp); have k0_1_w4 : w4.cell? ⟨w2.heap.size, 1, none⟩ = some (.int .i64 ((asI e f).hi)) := (by first | exact (c_w4 _ _ (by omega)).trans (by go_simp) | go_simp); have l0_1_w4 : w4.frozen? ⟨w2.heap.size, 1, none⟩ = false := (by first | exact (f_w4 _ _ (by omega)).trans (by go_simp) | go_simp); clear c_w4 f_w4
    go_wp2_with (go_at_call 16; refine (eqInterval_same _ _ _).mono ?_; rintro e w5 ⟨rfl, b_w5⟩; obtain ⟨c_w5, f_w5, z_w5⟩ := bfacts b_w5 (by first | (simp; rfl) | rfl))
    go_ret
    exact ⟨rfl, by (repeat' (first | with_reducible exact Below.refl _ _ | with_reducible refine Below.setCell ?_ ?_ _ | with_reducible refine Below.drew ?_ | with_reducible refine below_drewN ?_ _ | with_reducible refine Below.alloc ?_ ?_ _ | with_reducible refine below_step b_w5 ?_ ?_ | with_reducible refine below_step b_w4 ?_ ?_ | with_reducible refine below_step b_w3 ?_ ?_ | with_reducible refine below_step b_w2 ?_ ?_ | with_reducible refine below_step b_w1 ?_ ?_ | omega | (simp; done) | (simp; omega)))⟩
set_option maxRecDepth 100000 in
theorem lifted_FnExactAltitudeOf (os : Os) (started : os.Started) (H : Type) (enc : TypeId × Value → H) :
    ReturnsInHanded {} Try.checked os 8 .any (Rows.fnExactAltitudeOfSpec.pre6 enc Try.prog Try.f8 Rows.fnExactAltitudeOfRow.domain false) (Rows.fnExactAltitudeOfSpec.post enc Try.prog Try.f8 false true false false) := by
  refine returnsInHanded_of_change (C := Try.checked) prog_own started (by kernel_rfl) Try.func8
    (ChangeSpec.witness6 (enc := enc) (C := Try.checked) false ⟨#[], #[.agg #[.int .i64 0, .int .i64 0, .int .i64 0, .int .i64 0, .int .i64 0, .int .i64 0]], []⟩ 8 (by kernel_rfl) (by kernel_rfl) (by kernel_rfl) (by kernel_rfl)) ?_
  intro W base args ds gs before hval0 hW hcnd _
  have hval : ∀ (j : Nat) t v, Try.f8.params[j]? = some t → args[j]? = some v → Value.okWide Try.prog W .any base t v := hval0
  have hW' := hW
  obtain ⟨p, q, hA0, hV, rfl, hfz, hnd⟩ := hW
  have hA : DataW.TrodAll enc Try.prog W 0 (fun _ => true) true Try.f8.params.toList args.toList ds p := hA0
  rw [Try.params8] at hA hval
  obtain ⟨v0, vs0, d0, ds0, p0, q0, hargs, rfl, rfl, h0, r0⟩ := trodAll_cons hA
  obtain ⟨rfl, rfl, rfl⟩ := trodAll_nil r0
  obtain rfl : args = #[v0] := by cases args; simp_all
  obtain ⟨rfl, rfl⟩ := trodVars_none hV
  obtain ⟨rfl, cs0, rfl, sz0, hi0⟩ := open_i64s (k := 4) Try.underlying45 (by kernel_rfl) (hval 0 45 v0 rfl rfl) h0
  obtain ⟨a0, a1, a2, a3, a4, a5, rfl, wa0, wa1, wa2, wa3, wa4, wa5⟩ := ints6 (sz0.trans (by kernel_rfl)) hi0
  clear hA0 hval0
  simp only [List.append_nil] at hW'
  refine (walk_FnExactAltitudeOf a0 a1 a2 a3 a4 a5 (bounds_i64 wa0) (bounds_i64 wa1) (bounds_i64 wa2) (bounds_i64 wa3) (bounds_i64 wa4) (bounds_i64 wa5) W).mono fun e W' ⟨he, hb⟩ => ?_
  subst he
  exact ⟨_, rfl, post_of_below (pa := []) (pv := []) hW' (fun _ _ _ => (trodAll_cons_mk (shut_bool Try.underlying4 _) trodAll_mk0)) (fun sp _ => (trodAll_cons_mk (Trod_i64_any (k := 4) (by kernel_rfl) h0) (trodAll_mk0))) (fun _ _ => rfl) rfl hb (ok_one (by kernel_rfl) rfl (okWide_bool_mk Try.underlying4 _))⟩

theorem FnExactAltitudeOf_holds : Rows.FnExactAltitudeOfSaid :=
  OpenClaim.holds_of_wide 8 Try.f8 rfl rfl rfl rfl rfl rfl rfl ⟨rfl, rfl, rfl, rfl, rfl⟩ rfl rfl rfl rfl rfl (by kernel_rfl) Try.func8 (by kernel_rfl)
    (of_decide_eq_true (by kernel_rfl)) (by unfold Func.isWrapper; first | (rw [if_pos (by decide +kernel)]; kernel_rfl) | (rw [if_neg (by decide +kernel)]; exact ⟨rfl, rfl⟩))
    (fun os started H enc _ => lifted_FnExactAltitudeOf os started H enc)

#print axioms FnExactAltitudeOf_holds


end Go.Proofs.Ytfhoogaijamekaa
