/- The laws on the light of a day: for all arguments the program returns what the reference returns. No condition. -/
import Derived.Test.YtikmepppnechaaaC7
import Derived.Test.YtikmepppnechaaaS7
import Derived.Test.YtikmepppnechaaaG
import Derived.Test.YtikmepppnechaaaE
import Derived.Test.YtikmepppnechaaaRowKit
namespace Go.Proofs.Ytikmepppnechaaa
set_option linter.unusedVariables false
set_option linter.unusedSimpArgs false
open Go.ChangeShapes Go.WideShapes Go.ChangeAt Go.RowKit


set_option maxHeartbeats 1000000 in
theorem walk_FnExactUpMinutes (lat n h : Int) (_ : -9223372036854775808 ≤ lat ∧ lat ≤ 9223372036854775807) (_ : -9223372036854775808 ≤ n ∧ n ≤ 9223372036854775807) (_ : -9223372036854775808 ≤ h ∧ h ≤ 9223372036854775807) (w : World) :
    Calls Try.prog 11 #[.int .i64 lat, .int .i64 n, .int .i64 h] w fun e w' => e = .returned (.bool true) ∧ Below w.heap.size w w' := by
  cases p : raB lat n h
  · have su := fun w => sUpMinutes_no lat n h w p
    have iu := fun w => UpMinutes_no lat n h w p
    have SU := Lib.hid su; have IU := Lib.hid iu; clear su iu
    go_enter Try.func11, Try.ntmps11
    go_wp2_with fail
    refine (SU.out _).mono ?_
    rintro _ w1 ⟨rfl, b_w1⟩
    obtain ⟨c_w1, f_w1, z_w1⟩ := bfacts b_w1 (by first | (simp; rfl) | rfl)
    go_wp2_with fail
    refine (IU.out _).mono ?_
    rintro _ w2 ⟨rfl, b_w2⟩
    obtain ⟨c_w2, f_w2, z_w2⟩ := bfacts b_w2 (by first | (simp; rfl) | rfl)
    have y0_w2 : w1.heap.size < w2.heap.size := (by omega)
    have k0_0_w2 : w2.cell? ⟨w1.heap.size, 0, none⟩ = some (.int .i64 (0)) := (by first | exact (c_w2 _ _ (by omega)).trans (by go_simp) | go_simp)
    have l0_0_w2 : w2.frozen? ⟨w1.heap.size, 0, none⟩ = false := (by first | exact (f_w2 _ _ (by omega)).trans (by go_simp) | go_simp)
    have k0_1_w2 : w2.cell? ⟨w1.heap.size, 1, none⟩ = some (.int .i64 (0)) := (by first | exact (c_w2 _ _ (by omega)).trans (by go_simp) | go_simp)
    have l0_1_w2 : w2.frozen? ⟨w1.heap.size, 1, none⟩ = false := (by first | exact (f_w2 _ _ (by omega)).trans (by go_simp) | go_simp)
    clear c_w2 f_w2
    go_wp2_with fail
    refine (eqInterval_same _ _ _).mono ?_
    rintro _ w3 ⟨rfl, b_w3⟩
    obtain ⟨c_w3, f_w3, z_w3⟩ := bfacts b_w3 (by first | (simp; rfl) | rfl)
    go_wp2
    go_ret
    exact ⟨rfl, by (repeat' (first | with_reducible exact Below.refl _ _ | with_reducible refine Below.setCell ?_ ?_ _ | with_reducible refine Below.drew ?_ | with_reducible refine below_drewN ?_ _ | with_reducible refine Below.alloc ?_ ?_ _ | with_reducible refine below_step b_w3 ?_ ?_ | with_reducible refine below_step b_w2 ?_ ?_ | with_reducible refine below_step b_w1 ?_ ?_ | omega | (simp; done) | (simp; omega)))⟩
  · have su := fun w => sUpMinutes_yes lat n h w p
    have iu := fun w => UpMinutes_yes lat n h w p
    generalize upN (dyM lat n h) 1440 = r0 at su iu
    generalize 1440 - dnN (dyM lat n h) 1440 = r1 at su iu
    have SU := Lib.hid su; have IU := Lib.hid iu; clear su iu
    go_enter Try.func11, Try.ntmps11
    go_wp2_with fail
    refine (SU.out _).mono ?_
    rintro _ w1 ⟨rfl, b_w1⟩
    obtain ⟨c_w1, f_w1, z_w1⟩ := bfacts b_w1 (by first | (simp; rfl) | rfl)
    go_wp2_with fail
    refine (IU.out _).mono ?_
    rintro _ w2 ⟨rfl, b_w2⟩
    obtain ⟨c_w2, f_w2, z_w2⟩ := bfacts b_w2 (by first | (simp; rfl) | rfl)
    have y0_w2 : w1.heap.size < w2.heap.size := (by omega)
    have k0_0_w2 : w2.cell? ⟨w1.heap.size, 0, none⟩ = some (.int .i64 (r0)) := (by first | exact (c_w2 _ _ (by omega)).trans (by go_simp) | go_simp)
    have l0_0_w2 : w2.frozen? ⟨w1.heap.size, 0, none⟩ = false := (by first | exact (f_w2 _ _ (by omega)).trans (by go_simp) | go_simp)
    have k0_1_w2 : w2.cell? ⟨w1.heap.size, 1, none⟩ = some (.int .i64 (r1)) := (by first | exact (c_w2 _ _ (by omega)).trans (by go_simp) | go_simp)
    have l0_1_w2 : w2.frozen? ⟨w1.heap.size, 1, none⟩ = false := (by first | exact (f_w2 _ _ (by omega)).trans (by go_simp) | go_simp)
    clear c_w2 f_w2
    go_wp2_with fail
    refine (eqInterval_same _ _ _).mono ?_
    rintro _ w3 ⟨rfl, b_w3⟩
    obtain ⟨c_w3, f_w3, z_w3⟩ := bfacts b_w3 (by first | (simp; rfl) | rfl)
    go_wp2
    go_ret
    exact ⟨rfl, by (repeat' (first | with_reducible exact Below.refl _ _ | with_reducible refine Below.setCell ?_ ?_ _ | with_reducible refine Below.drew ?_ | with_reducible refine below_drewN ?_ _ | with_reducible refine Below.alloc ?_ ?_ _ | with_reducible refine below_step b_w3 ?_ ?_ | with_reducible refine below_step b_w2 ?_ ?_ | with_reducible refine below_step b_w1 ?_ ?_ | omega | (simp; done) | (simp; omega)))⟩
set_option maxRecDepth 100000 in
theorem lifted_FnExactUpMinutes (os : Os) (started : os.Started) (H : Type) (enc : TypeId × Value → H) :
    ReturnsInHanded {} Try.checked os 11 .any (Rows.fnExactUpMinutesSpec.pre6 enc Try.prog Try.f11 Rows.fnExactUpMinutesRow.domain false) (Rows.fnExactUpMinutesSpec.post enc Try.prog Try.f11 false true false false) := by
  refine returnsInHanded_of_change (C := Try.checked) prog_own started (by kernel_rfl) Try.func11
    (ChangeSpec.witness6 (enc := enc) (C := Try.checked) false ⟨#[], #[.int .i64 0, .int .i64 0, .int .i64 0], []⟩ 8 (by kernel_rfl) (by kernel_rfl) (by kernel_rfl) (by kernel_rfl)) ?_
  intro W base args ds gs before hval0 hW hcnd _
  have hval : ∀ (j : Nat) t v, Try.f11.params[j]? = some t → args[j]? = some v → Value.okWide Try.prog W .any base t v := hval0
  have hW' := hW
  obtain ⟨p, q, hA0, hV, rfl, hfz, hnd⟩ := hW
  have hA : DataW.TrodAll enc Try.prog W 0 (fun _ => true) true Try.f11.params.toList args.toList ds p := hA0
  rw [Try.params11] at hA hval
  obtain ⟨v0, vs0, d0, ds0, p0, q0, hargs, rfl, rfl, h0, r0⟩ := trodAll_cons hA
  obtain ⟨v1, vs1, d1, ds1, p1, q1, rfl, rfl, rfl, h1, r1⟩ := trodAll_cons r0
  obtain ⟨v2, vs2, d2, ds2, p2, q2, rfl, rfl, rfl, h2, r2⟩ := trodAll_cons r1
  obtain ⟨rfl, rfl, rfl⟩ := trodAll_nil r2
  obtain rfl : args = #[v0, v1, v2] := by cases args; simp_all
  obtain ⟨rfl, rfl⟩ := trodVars_none hV
  obtain ⟨a0, rfl, rfl, rfl, wa0⟩ := open_int Try.underlying2 (hval 0 2 v0 rfl rfl) h0
  obtain ⟨a1, rfl, rfl, rfl, wa1⟩ := open_int Try.underlying2 (hval 1 2 v1 rfl rfl) h1
  obtain ⟨a2, rfl, rfl, rfl, wa2⟩ := open_int Try.underlying2 (hval 2 2 v2 rfl rfl) h2
  clear hA0 hval0
  simp only [List.append_nil] at hW'
  refine (walk_FnExactUpMinutes a0 a1 a2 (bounds_i64 wa0) (bounds_i64 wa1) (bounds_i64 wa2) W).mono fun e W' ⟨he, hb⟩ => ?_
  subst he
  exact ⟨_, rfl, post_of_below (pa := []) (pv := []) hW' (fun _ _ _ => (trodAll_cons_mk (shut_bool Try.underlying4 _) trodAll_mk0)) (fun sp _ => (trodAll_cons_mk (Trod_i64_any (k := 4) (by kernel_rfl) h0) (trodAll_cons_mk (Trod_i64_any (k := 4) (by kernel_rfl) h1) (trodAll_cons_mk (Trod_i64_any (k := 4) (by kernel_rfl) h2) (trodAll_mk0))))) (fun _ _ => rfl) rfl hb (ok_one (by kernel_rfl) rfl (okWide_bool_mk Try.underlying4 _))⟩

theorem FnExactUpMinutes_holds : Rows.FnExactUpMinutesSaid :=
  OpenClaim.holds_of_wide 11 Try.f11 rfl rfl rfl rfl rfl rfl rfl ⟨rfl, rfl, rfl, rfl, rfl⟩ rfl rfl rfl rfl rfl (by kernel_rfl) Try.func11 (by kernel_rfl)
    (of_decide_eq_true (by kernel_rfl)) (by unfold Func.isWrapper; first | (rw [if_pos (by decide +kernel)]; kernel_rfl) | (rw [if_neg (by decide +kernel)]; exact ⟨rfl, rfl⟩))
    (fun os started H enc _ => lifted_FnExactUpMinutes os started H enc)

#print axioms FnExactUpMinutes_holds

set_option maxHeartbeats 1000000 in
theorem walk_FnExactDayKind (lat n h : Int) (_ : -9223372036854775808 ≤ lat ∧ lat ≤ 9223372036854775807) (_ : -9223372036854775808 ≤ n ∧ n ≤ 9223372036854775807) (_ : -9223372036854775808 ≤ h ∧ h ≤ 9223372036854775807) (w : World) :
    Calls Try.prog 14 #[.int .i64 lat, .int .i64 n, .int .i64 h] w fun e w' => e = .returned (.bool true) ∧ Below w.heap.size w w' := by
  cases p : raB lat n h
  · have su := fun w => sDayKind_no lat n h w p
    have iu := fun w => DayKind_no lat n h w p
    have SU := Lib.hid su; have IU := Lib.hid iu; clear su iu
    go_enter Try.func14, Try.ntmps14
    go_wp2_with fail
    refine (SU.out _).mono ?_
    rintro _ w1 ⟨rfl, b_w1⟩
    obtain ⟨c_w1, f_w1, z_w1⟩ := bfacts b_w1 (by first | (simp; rfl) | rfl)
    go_wp2_with fail
    refine (IU.out _).mono ?_
    rintro _ w2 ⟨rfl, b_w2⟩
    obtain ⟨c_w2, f_w2, z_w2⟩ := bfacts b_w2 (by first | (simp; rfl) | rfl)
    go_wp2
    go_ret
    exact ⟨rfl, by (repeat' (first | with_reducible exact Below.refl _ _ | with_reducible refine Below.setCell ?_ ?_ _ | with_reducible refine Below.drew ?_ | with_reducible refine below_drewN ?_ _ | with_reducible refine Below.alloc ?_ ?_ _ | with_reducible refine below_step b_w2 ?_ ?_ | with_reducible refine below_step b_w1 ?_ ?_ | omega | (simp; done) | (simp; omega)))⟩
  · have su := fun w => sDayKind_yes lat n h w p
    have iu := fun w => DayKind_yes lat n h w p
    generalize kiM (upN (dyM lat n h) 1440) (dnN (dyM lat n h) 1440) = r0 at su iu
    have SU := Lib.hid su; have IU := Lib.hid iu; clear su iu
    go_enter Try.func14, Try.ntmps14
    go_wp2_with fail
    refine (SU.out _).mono ?_
    rintro _ w1 ⟨rfl, b_w1⟩
    obtain ⟨c_w1, f_w1, z_w1⟩ := bfacts b_w1 (by first | (simp; rfl) | rfl)
    go_wp2_with fail
    refine (IU.out _).mono ?_
    rintro _ w2 ⟨rfl, b_w2⟩
    obtain ⟨c_w2, f_w2, z_w2⟩ := bfacts b_w2 (by first | (simp; rfl) | rfl)
    go_wp2
    go_ret
    exact ⟨rfl, by (repeat' (first | with_reducible exact Below.refl _ _ | with_reducible refine Below.setCell ?_ ?_ _ | with_reducible refine Below.drew ?_ | with_reducible refine below_drewN ?_ _ | with_reducible refine Below.alloc ?_ ?_ _ | with_reducible refine below_step b_w2 ?_ ?_ | with_reducible refine below_step b_w1 ?_ ?_ | omega | (simp; done) | (simp; omega)))⟩
set_option maxRecDepth 100000 in
theorem lifted_FnExactDayKind (os : Os) (started : os.Started) (H : Type) (enc : TypeId × Value → H) :
    ReturnsInHanded {} Try.checked os 14 .any (Rows.fnExactDayKindSpec.pre6 enc Try.prog Try.f14 Rows.fnExactDayKindRow.domain false) (Rows.fnExactDayKindSpec.post enc Try.prog Try.f14 false true false false) := by
  refine returnsInHanded_of_change (C := Try.checked) prog_own started (by kernel_rfl) Try.func14
    (ChangeSpec.witness6 (enc := enc) (C := Try.checked) false ⟨#[], #[.int .i64 0, .int .i64 0, .int .i64 0], []⟩ 8 (by kernel_rfl) (by kernel_rfl) (by kernel_rfl) (by kernel_rfl)) ?_
  intro W base args ds gs before hval0 hW hcnd _
  have hval : ∀ (j : Nat) t v, Try.f14.params[j]? = some t → args[j]? = some v → Value.okWide Try.prog W .any base t v := hval0
  have hW' := hW
  obtain ⟨p, q, hA0, hV, rfl, hfz, hnd⟩ := hW
  have hA : DataW.TrodAll enc Try.prog W 0 (fun _ => true) true Try.f14.params.toList args.toList ds p := hA0
  rw [Try.params14] at hA hval
  obtain ⟨v0, vs0, d0, ds0, p0, q0, hargs, rfl, rfl, h0, r0⟩ := trodAll_cons hA
  obtain ⟨v1, vs1, d1, ds1, p1, q1, rfl, rfl, rfl, h1, r1⟩ := trodAll_cons r0
  obtain ⟨v2, vs2, d2, ds2, p2, q2, rfl, rfl, rfl, h2, r2⟩ := trodAll_cons r1
  obtain ⟨rfl, rfl, rfl⟩ := trodAll_nil r2
  obtain rfl : args = #[v0, v1, v2] := by cases args; simp_all
  obtain ⟨rfl, rfl⟩ := trodVars_none hV
  obtain ⟨a0, rfl, rfl, rfl, wa0⟩ := open_int Try.underlying2 (hval 0 2 v0 rfl rfl) h0
  obtain ⟨a1, rfl, rfl, rfl, wa1⟩ := open_int Try.underlying2 (hval 1 2 v1 rfl rfl) h1
  obtain ⟨a2, rfl, rfl, rfl, wa2⟩ := open_int Try.underlying2 (hval 2 2 v2 rfl rfl) h2
  clear hA0 hval0
  simp only [List.append_nil] at hW'
  refine (walk_FnExactDayKind a0 a1 a2 (bounds_i64 wa0) (bounds_i64 wa1) (bounds_i64 wa2) W).mono fun e W' ⟨he, hb⟩ => ?_
  subst he
  exact ⟨_, rfl, post_of_below (pa := []) (pv := []) hW' (fun _ _ _ => (trodAll_cons_mk (shut_bool Try.underlying4 _) trodAll_mk0)) (fun sp _ => (trodAll_cons_mk (Trod_i64_any (k := 4) (by kernel_rfl) h0) (trodAll_cons_mk (Trod_i64_any (k := 4) (by kernel_rfl) h1) (trodAll_cons_mk (Trod_i64_any (k := 4) (by kernel_rfl) h2) (trodAll_mk0))))) (fun _ _ => rfl) rfl hb (ok_one (by kernel_rfl) rfl (okWide_bool_mk Try.underlying4 _))⟩

theorem FnExactDayKind_holds : Rows.FnExactDayKindSaid :=
  OpenClaim.holds_of_wide 14 Try.f14 rfl rfl rfl rfl rfl rfl rfl ⟨rfl, rfl, rfl, rfl, rfl⟩ rfl rfl rfl rfl rfl (by kernel_rfl) Try.func14 (by kernel_rfl)
    (of_decide_eq_true (by kernel_rfl)) (by unfold Func.isWrapper; first | (rw [if_pos (by decide +kernel)]; kernel_rfl) | (rw [if_neg (by decide +kernel)]; exact ⟨rfl, rfl⟩))
    (fun os started H enc _ => lifted_FnExactDayKind os started H enc)

#print axioms FnExactDayKind_holds

set_option maxHeartbeats 1000000 in
theorem walk_FnExactRiseBounds (lat n h : Int) (_ : -9223372036854775808 ≤ lat ∧ lat ≤ 9223372036854775807) (_ : -9223372036854775808 ≤ n ∧ n ≤ 9223372036854775807) (_ : -9223372036854775808 ≤ h ∧ h ≤ 9223372036854775807) (w : World) :
    Calls Try.prog 12 #[.int .i64 lat, .int .i64 n, .int .i64 h] w fun e w' => e = .returned (.bool true) ∧ Below w.heap.size w w' := by
  cases p : raB lat n h
  · have su := fun w => sRiseBounds_no lat n h w p
    have iu := fun w => RiseBounds_no lat n h w p
    have SU := Lib.hid su; have IU := Lib.hid iu; clear su iu
    go_enter Try.func12, Try.ntmps12
    go_wp2_with fail
    refine (SU.out _).mono ?_
    rintro _ w1 ⟨rfl, b_w1⟩
    obtain ⟨c_w1, f_w1, z_w1⟩ := bfacts b_w1 (by first | (simp; rfl) | rfl)
    go_wp2_with fail
    refine (IU.out _).mono ?_
    rintro _ w2 ⟨rfl, b_w2⟩
    obtain ⟨c_w2, f_w2, z_w2⟩ := bfacts b_w2 (by first | (simp; rfl) | rfl)
    have y0_w2 : w1.heap.size < w2.heap.size := (by omega)
    have k0_0_w2 : w2.cell? ⟨w1.heap.size, 0, none⟩ = some (.int .i64 (0)) := (by first | exact (c_w2 _ _ (by omega)).trans (by go_simp) | go_simp)
    have l0_0_w2 : w2.frozen? ⟨w1.heap.size, 0, none⟩ = false := (by first | exact (f_w2 _ _ (by omega)).trans (by go_simp) | go_simp)
    have k0_1_w2 : w2.cell? ⟨w1.heap.size, 1, none⟩ = some (.int .i64 (0)) := (by first | exact (c_w2 _ _ (by omega)).trans (by go_simp) | go_simp)
    have l0_1_w2 : w2.frozen? ⟨w1.heap.size, 1, none⟩ = false := (by first | exact (f_w2 _ _ (by omega)).trans (by go_simp) | go_simp)
    clear c_w2 f_w2
    go_wp2_with fail
    refine (eqInterval_same _ _ _).mono ?_
    rintro _ w3 ⟨rfl, b_w3⟩
    obtain ⟨c_w3, f_w3, z_w3⟩ := bfacts b_w3 (by first | (simp; rfl) | rfl)
    go_wp2
    go_ret
    exact ⟨rfl, by (repeat' (first | with_reducible exact Below.refl _ _ | with_reducible refine Below.setCell ?_ ?_ _ | with_reducible refine Below.drew ?_ | with_reducible refine below_drewN ?_ _ | with_reducible refine Below.alloc ?_ ?_ _ | with_reducible refine below_step b_w3 ?_ ?_ | with_reducible refine below_step b_w2 ?_ ?_ | with_reducible refine below_step b_w1 ?_ ?_ | omega | (simp; done) | (simp; omega)))⟩
  · have su := fun w => sRiseBounds_yes lat n h w p
    have iu := fun w => RiseBounds_yes lat n h w p
    generalize (riD (dyM lat n h) 721).lo = r0 at su iu
    generalize (riD (dyM lat n h) 721).hi = r1 at su iu
    generalize (riD (dyM lat n h) 721).code = r2 at su iu
    have SU := Lib.hid su; have IU := Lib.hid iu; clear su iu
    go_enter Try.func12, Try.ntmps12
    go_wp2_with fail
    refine (SU.out _).mono ?_
    rintro _ w1 ⟨rfl, b_w1⟩
    obtain ⟨c_w1, f_w1, z_w1⟩ := bfacts b_w1 (by first | (simp; rfl) | rfl)
    go_wp2_with fail
    refine (IU.out _).mono ?_
    rintro _ w2 ⟨rfl, b_w2⟩
    obtain ⟨c_w2, f_w2, z_w2⟩ := bfacts b_w2 (by first | (simp; rfl) | rfl)
    have y0_w2 : w1.heap.size < w2.heap.size := (by omega)
    have k0_0_w2 : w2.cell? ⟨w1.heap.size, 0, none⟩ = some (.int .i64 (r0)) := (by first | exact (c_w2 _ _ (by omega)).trans (by go_simp) | go_simp)
    have l0_0_w2 : w2.frozen? ⟨w1.heap.size, 0, none⟩ = false := (by first | exact (f_w2 _ _ (by omega)).trans (by go_simp) | go_simp)
    have k0_1_w2 : w2.cell? ⟨w1.heap.size, 1, none⟩ = some (.int .i64 (r1)) := (by first | exact (c_w2 _ _ (by omega)).trans (by go_simp) | go_simp)
    have l0_1_w2 : w2.frozen? ⟨w1.heap.size, 1, none⟩ = false := (by first | exact (f_w2 _ _ (by omega)).trans (by go_simp) | go_simp)
    clear c_w2 f_w2
    go_wp2_with fail
    refine (eqInterval_same _ _ _).mono ?_
    rintro _ w3 ⟨rfl, b_w3⟩
    obtain ⟨c_w3, f_w3, z_w3⟩ := bfacts b_w3 (by first | (simp; rfl) | rfl)
    go_wp2
    go_ret
    exact ⟨rfl, by (repeat' (first | with_reducible exact Below.refl _ _ | with_reducible refine Below.setCell ?_ ?_ _ | with_reducible refine Below.drew ?_ | with_reducible refine below_drewN ?_ _ | with_reducible refine Below.alloc ?_ ?_ _ | with_reducible refine below_step b_w3 ?_ ?_ | with_reducible refine below_step b_w2 ?_ ?_ | with_reducible refine below_step b_w1 ?_ ?_ | omega | (simp; done) | (simp; omega)))⟩
set_option maxRecDepth 100000 in
theorem lifted_FnExactRiseBounds (os : Os) (started : os.Started) (H : Type) (enc : TypeId × Value → H) :
    ReturnsInHanded {} Try.checked os 12 .any (Rows.fnExactRiseBoundsSpec.pre6 enc Try.prog Try.f12 Rows.fnExactRiseBoundsRow.domain false) (Rows.fnExactRiseBoundsSpec.post enc Try.prog Try.f12 false true false false) := by
  refine returnsInHanded_of_change (C := Try.checked) prog_own started (by kernel_rfl) Try.func12
    (ChangeSpec.witness6 (enc := enc) (C := Try.checked) false ⟨#[], #[.int .i64 0, .int .i64 0, .int .i64 0], []⟩ 8 (by kernel_rfl) (by kernel_rfl) (by kernel_rfl) (by kernel_rfl)) ?_
  intro W base args ds gs before hval0 hW hcnd _
  have hval : ∀ (j : Nat) t v, Try.f12.params[j]? = some t → args[j]? = some v → Value.okWide Try.prog W .any base t v := hval0
  have hW' := hW
  obtain ⟨p, q, hA0, hV, rfl, hfz, hnd⟩ := hW
  have hA : DataW.TrodAll enc Try.prog W 0 (fun _ => true) true Try.f12.params.toList args.toList ds p := hA0
  rw [Try.params12] at hA hval
  obtain ⟨v0, vs0, d0, ds0, p0, q0, hargs, rfl, rfl, h0, r0⟩ := trodAll_cons hA
  obtain ⟨v1, vs1, d1, ds1, p1, q1, rfl, rfl, rfl, h1, r1⟩ := trodAll_cons r0
  obtain ⟨v2, vs2, d2, ds2, p2, q2, rfl, rfl, rfl, h2, r2⟩ := trodAll_cons r1
  obtain ⟨rfl, rfl, rfl⟩ := trodAll_nil r2
  obtain rfl : args = #[v0, v1, v2] := by cases args; simp_all
  obtain ⟨rfl, rfl⟩ := trodVars_none hV
  obtain ⟨a0, rfl, rfl, rfl, wa0⟩ := open_int Try.underlying2 (hval 0 2 v0 rfl rfl) h0
  obtain ⟨a1, rfl, rfl, rfl, wa1⟩ := open_int Try.underlying2 (hval 1 2 v1 rfl rfl) h1
  obtain ⟨a2, rfl, rfl, rfl, wa2⟩ := open_int Try.underlying2 (hval 2 2 v2 rfl rfl) h2
  clear hA0 hval0
  simp only [List.append_nil] at hW'
  refine (walk_FnExactRiseBounds a0 a1 a2 (bounds_i64 wa0) (bounds_i64 wa1) (bounds_i64 wa2) W).mono fun e W' ⟨he, hb⟩ => ?_
  subst he
  exact ⟨_, rfl, post_of_below (pa := []) (pv := []) hW' (fun _ _ _ => (trodAll_cons_mk (shut_bool Try.underlying4 _) trodAll_mk0)) (fun sp _ => (trodAll_cons_mk (Trod_i64_any (k := 4) (by kernel_rfl) h0) (trodAll_cons_mk (Trod_i64_any (k := 4) (by kernel_rfl) h1) (trodAll_cons_mk (Trod_i64_any (k := 4) (by kernel_rfl) h2) (trodAll_mk0))))) (fun _ _ => rfl) rfl hb (ok_one (by kernel_rfl) rfl (okWide_bool_mk Try.underlying4 _))⟩

theorem FnExactRiseBounds_holds : Rows.FnExactRiseBoundsSaid :=
  OpenClaim.holds_of_wide 12 Try.f12 rfl rfl rfl rfl rfl rfl rfl ⟨rfl, rfl, rfl, rfl, rfl⟩ rfl rfl rfl rfl rfl (by kernel_rfl) Try.func12 (by kernel_rfl)
    (of_decide_eq_true (by kernel_rfl)) (by unfold Func.isWrapper; first | (rw [if_pos (by decide +kernel)]; kernel_rfl) | (rw [if_neg (by decide +kernel)]; exact ⟨rfl, rfl⟩))
    (fun os started H enc _ => lifted_FnExactRiseBounds os started H enc)

#print axioms FnExactRiseBounds_holds

set_option maxHeartbeats 1000000 in
theorem walk_FnExactSetBounds (lat n h : Int) (_ : -9223372036854775808 ≤ lat ∧ lat ≤ 9223372036854775807) (_ : -9223372036854775808 ≤ n ∧ n ≤ 9223372036854775807) (_ : -9223372036854775808 ≤ h ∧ h ≤ 9223372036854775807) (w : World) :
    Calls Try.prog 10 #[.int .i64 lat, .int .i64 n, .int .i64 h] w fun e w' => e = .returned (.bool true) ∧ Below w.heap.size w w' := by
  cases p : raB lat n h
  · have su := fun w => sSetBounds_no lat n h w p
    have iu := fun w => SetBounds_no lat n h w p
    have SU := Lib.hid su; have IU := Lib.hid iu; clear su iu
    go_enter Try.func10, Try.ntmps10
    go_wp2_with fail
    refine (SU.out _).mono ?_
    rintro _ w1 ⟨rfl, b_w1⟩
    obtain ⟨c_w1, f_w1, z_w1⟩ := bfacts b_w1 (by first | (simp; rfl) | rfl)
    go_wp2_with fail
    refine (IU.out _).mono ?_
    rintro _ w2 ⟨rfl, b_w2⟩
    obtain ⟨c_w2, f_w2, z_w2⟩ := bfacts b_w2 (by first | (simp; rfl) | rfl)
    have y0_w2 : w1.heap.size < w2.heap.size := (by omega)
    have k0_0_w2 : w2.cell? ⟨w1.heap.size, 0, none⟩ = some (.int .i64 (0)) := (by first | exact (c_w2 _ _ (by omega)).trans (by go_simp) | go_simp)
    have l0_0_w2 : w2.frozen? ⟨w1.heap.size, 0, none⟩ = false := (by first | exact (f_w2 _ _ (by omega)).trans (by go_simp) | go_simp)
    have k0_1_w2 : w2.cell? ⟨w1.heap.size, 1, none⟩ = some (.int .i64 (0)) := (by first | exact (c_w2 _ _ (by omega)).trans (by go_simp) | go_simp)
    have l0_1_w2 : w2.frozen? ⟨w1.heap.size, 1, none⟩ = false := (by first | exact (f_w2 _ _ (by omega)).trans (by go_simp) | go_simp)
    clear c_w2 f_w2
    go_wp2_with fail
    refine (eqInterval_same _ _ _).mono ?_
    rintro _ w3 ⟨rfl, b_w3⟩
    obtain ⟨c_w3, f_w3, z_w3⟩ := bfacts b_w3 (by first | (simp; rfl) | rfl)
    go_wp2
    go_ret
    exact ⟨rfl, by (repeat' (first | with_reducible exact Below.refl _ _ | with_reducible refine Below.setCell ?_ ?_ _ | with_reducible refine Below.drew ?_ | with_reducible refine below_drewN ?_ _ | with_reducible refine Below.alloc ?_ ?_ _ | with_reducible refine below_step b_w3 ?_ ?_ | with_reducible refine below_step b_w2 ?_ ?_ | with_reducible refine below_step b_w1 ?_ ?_ | omega | (simp; done) | (simp; omega)))⟩
  · have su := fun w => sSetBounds_yes lat n h w p
    have iu := fun w => SetBounds_yes lat n h w p
    generalize (seM (dyM lat n h) 0 720).lo = r0 at su iu
    generalize (seM (dyM lat n h) 0 720).hi = r1 at su iu
    generalize (seM (dyM lat n h) 0 720).code = r2 at su iu
    have SU := Lib.hid su; have IU := Lib.hid iu; clear su iu
    go_enter Try.func10, Try.ntmps10
    go_wp2_with fail
    refine (SU.out _).mono ?_
    rintro _ w1 ⟨rfl, b_w1⟩
    obtain ⟨c_w1, f_w1, z_w1⟩ := bfacts b_w1 (by first | (simp; rfl) | rfl)
    go_wp2_with fail
    refine (IU.out _).mono ?_
    rintro _ w2 ⟨rfl, b_w2⟩
    obtain ⟨c_w2, f_w2, z_w2⟩ := bfacts b_w2 (by first | (simp; rfl) | rfl)
    have y0_w2 : w1.heap.size < w2.heap.size := (by omega)
    have k0_0_w2 : w2.cell? ⟨w1.heap.size, 0, none⟩ = some (.int .i64 (r0)) := (by first | exact (c_w2 _ _ (by omega)).trans (by go_simp) | go_simp)
    have l0_0_w2 : w2.frozen? ⟨w1.heap.size, 0, none⟩ = false := (by first | exact (f_w2 _ _ (by omega)).trans (by go_simp) | go_simp)
    have k0_1_w2 : w2.cell? ⟨w1.heap.size, 1, none⟩ = some (.int .i64 (r1)) := (by first | exact (c_w2 _ _ (by omega)).trans (by go_simp) | go_simp)
    have l0_1_w2 : w2.frozen? ⟨w1.heap.size, 1, none⟩ = false := (by first | exact (f_w2 _ _ (by omega)).trans (by go_simp) | go_simp)
    clear c_w2 f_w2
    go_wp2_with fail
    refine (eqInterval_same _ _ _).mono ?_
    rintro _ w3 ⟨rfl, b_w3⟩
    obtain ⟨c_w3, f_w3, z_w3⟩ := bfacts b_w3 (by first | (simp; rfl) | rfl)
    go_wp2
    go_ret
    exact ⟨rfl, by (repeat' (first | with_reducible exact Below.refl _ _ | with_reducible refine Below.setCell ?_ ?_ _ | with_reducible refine Below.drew ?_ | with_reducible refine below_drewN ?_ _ | with_reducible refine Below.alloc ?_ ?_ _ | with_reducible refine below_step b_w3 ?_ ?_ | with_reducible refine below_step b_w2 ?_ ?_ | with_reducible refine below_step b_w1 ?_ ?_ | omega | (simp; done) | (simp; omega)))⟩
set_option maxRecDepth 100000 in
theorem lifted_FnExactSetBounds (os : Os) (started : os.Started) (H : Type) (enc : TypeId × Value → H) :
    ReturnsInHanded {} Try.checked os 10 .any (Rows.fnExactSetBoundsSpec.pre6 enc Try.prog Try.f10 Rows.fnExactSetBoundsRow.domain false) (Rows.fnExactSetBoundsSpec.post enc Try.prog Try.f10 false true false false) := by
  refine returnsInHanded_of_change (C := Try.checked) prog_own started (by kernel_rfl) Try.func10
    (ChangeSpec.witness6 (enc := enc) (C := Try.checked) false ⟨#[], #[.int .i64 0, .int .i64 0, .int .i64 0], []⟩ 8 (by kernel_rfl) (by kernel_rfl) (by kernel_rfl) (by kernel_rfl)) ?_
  intro W base args ds gs before hval0 hW hcnd _
  have hval : ∀ (j : Nat) t v, Try.f10.params[j]? = some t → args[j]? = some v → Value.okWide Try.prog W .any base t v := hval0
  have hW' := hW
  obtain ⟨p, q, hA0, hV, rfl, hfz, hnd⟩ := hW
  have hA : DataW.TrodAll enc Try.prog W 0 (fun _ => true) true Try.f10.params.toList args.toList ds p := hA0
  rw [Try.params10] at hA hval
  obtain ⟨v0, vs0, d0, ds0, p0, q0, hargs, rfl, rfl, h0, r0⟩ := trodAll_cons hA
  obtain ⟨v1, vs1, d1, ds1, p1, q1, rfl, rfl, rfl, h1, r1⟩ := trodAll_cons r0
  obtain ⟨v2, vs2, d2, ds2, p2, q2, rfl, rfl, rfl, h2, r2⟩ := trodAll_cons r1
  obtain ⟨rfl, rfl, rfl⟩ := trodAll_nil r2
  obtain rfl : args = #[v0, v1, v2] := by cases args; simp_all
  obtain ⟨rfl, rfl⟩ := trodVars_none hV
  obtain ⟨a0, rfl, rfl, rfl, wa0⟩ := open_int Try.underlying2 (hval 0 2 v0 rfl rfl) h0
  obtain ⟨a1, rfl, rfl, rfl, wa1⟩ := open_int Try.underlying2 (hval 1 2 v1 rfl rfl) h1
  obtain ⟨a2, rfl, rfl, rfl, wa2⟩ := open_int Try.underlying2 (hval 2 2 v2 rfl rfl) h2
  clear hA0 hval0
  simp only [List.append_nil] at hW'
  refine (walk_FnExactSetBounds a0 a1 a2 (bounds_i64 wa0) (bounds_i64 wa1) (bounds_i64 wa2) W).mono fun e W' ⟨he, hb⟩ => ?_
  subst he
  exact ⟨_, rfl, post_of_below (pa := []) (pv := []) hW' (fun _ _ _ => (trodAll_cons_mk (shut_bool Try.underlying4 _) trodAll_mk0)) (fun sp _ => (trodAll_cons_mk (Trod_i64_any (k := 4) (by kernel_rfl) h0) (trodAll_cons_mk (Trod_i64_any (k := 4) (by kernel_rfl) h1) (trodAll_cons_mk (Trod_i64_any (k := 4) (by kernel_rfl) h2) (trodAll_mk0))))) (fun _ _ => rfl) rfl hb (ok_one (by kernel_rfl) rfl (okWide_bool_mk Try.underlying4 _))⟩

theorem FnExactSetBounds_holds : Rows.FnExactSetBoundsSaid :=
  OpenClaim.holds_of_wide 10 Try.f10 rfl rfl rfl rfl rfl rfl rfl ⟨rfl, rfl, rfl, rfl, rfl⟩ rfl rfl rfl rfl rfl (by kernel_rfl) Try.func10 (by kernel_rfl)
    (of_decide_eq_true (by kernel_rfl)) (by unfold Func.isWrapper; first | (rw [if_pos (by decide +kernel)]; kernel_rfl) | (rw [if_neg (by decide +kernel)]; exact ⟨rfl, rfl⟩))
    (fun os started H enc _ => lifted_FnExactSetBounds os started H enc)

#print axioms FnExactSetBounds_holds


end Go.Proofs.Ytikmepppnechaaa
