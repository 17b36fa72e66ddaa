/- The law on the minutes at which a wall is lit: for all arguments the program returns what the reference returns. No condition. -/
import Derived.Test.YtikmepppnechaaaLit
import Derived.Test.YtikmepppnechaaaG
import Derived.Test.YtikmepppnechaaaE
import Derived.Test.YtikmepppnechaaaRowKit
namespace Go.Proofs.Ytikmepppnechaaa
set_option linter.unusedVariables false
set_option linter.unusedSimpArgs false
open Go.ChangeShapes Go.WideShapes Go.ChangeAt Go.RowKit


set_option maxHeartbeats 1000000 in
theorem walk_FnExactLitMinutes (az sl lat n : Int) (_ : -9223372036854775808 ≤ az ∧ az ≤ 9223372036854775807) (_ : -9223372036854775808 ≤ sl ∧ sl ≤ 9223372036854775807) (_ : -9223372036854775808 ≤ lat ∧ lat ≤ 9223372036854775807) (_ : -9223372036854775808 ≤ n ∧ n ≤ 9223372036854775807) (w : World) :
    Calls Try.prog 8 #[(.agg #[.int .i64 (az), .int .i64 (sl)]), .int .i64 lat, .int .i64 n] w fun e w' => e = .returned (.bool true) ∧ Below w.heap.size w w' := by
  cases p : waB az sl
  · have su := fun w => sLitMinutes_no1 az sl lat n w p
    have iu := fun w => LitMinutes_no1 az sl lat n w p
    have SU := Lib.hid su; have IU := Lib.hid iu; clear su iu
    go_enter Try.func8, Try.ntmps8
    go_wp2_with fail
    refine (toWall_any az sl _).mono ?_
    rintro _ w1 ⟨rfl, b_w1⟩
    obtain ⟨c_w1, f_w1, z_w1⟩ := bfacts b_w1 (by first | (simp; rfl) | rfl)
    have y0_w1 : w.heap.size < w1.heap.size := (by omega)
    have k0_0_w1 : w1.cell? ⟨w.heap.size, 0, none⟩ = some (.int .i64 (az)) := (by first | exact (c_w1 _ _ (by omega)).trans (by go_simp) | go_simp)
    have l0_0_w1 : w1.frozen? ⟨w.heap.size, 0, none⟩ = false := (by first | exact (f_w1 _ _ (by omega)).trans (by go_simp) | go_simp)
    have k0_1_w1 : w1.cell? ⟨w.heap.size, 1, none⟩ = some (.int .i64 (sl)) := (by first | exact (c_w1 _ _ (by omega)).trans (by go_simp) | go_simp)
    have l0_1_w1 : w1.frozen? ⟨w.heap.size, 1, none⟩ = false := (by first | exact (f_w1 _ _ (by omega)).trans (by go_simp) | go_simp)
    clear c_w1 f_w1
    go_wp2_with fail
    refine (SU.out _).mono ?_
    rintro _ w2 ⟨rfl, b_w2⟩
    obtain ⟨c_w2, f_w2, z_w2⟩ := bfacts b_w2 (by first | (simp; rfl) | rfl)
    have y0_w2 : w.heap.size < w2.heap.size := (by omega)
    have k0_0_w2 : w2.cell? ⟨w.heap.size, 0, none⟩ = some (.int .i64 (az)) := (by first | exact (c_w2 _ _ (by omega)).trans (by go_simp) | go_simp)
    have l0_0_w2 : w2.frozen? ⟨w.heap.size, 0, none⟩ = false := (by first | exact (f_w2 _ _ (by omega)).trans (by go_simp) | go_simp)
    have k0_1_w2 : w2.cell? ⟨w.heap.size, 1, none⟩ = some (.int .i64 (sl)) := (by first | exact (c_w2 _ _ (by omega)).trans (by go_simp) | go_simp)
    have l0_1_w2 : w2.frozen? ⟨w.heap.size, 1, none⟩ = false := (by first | exact (f_w2 _ _ (by omega)).trans (by go_simp) | go_simp)
    clear c_w2 f_w2
    go_wp2_with fail
    refine (toWall_any az sl _).mono ?_
    rintro _ w3 ⟨rfl, b_w3⟩
    obtain ⟨c_w3, f_w3, z_w3⟩ := bfacts b_w3 (by first | (simp; rfl) | rfl)
    have y0_w3 : w.heap.size < w3.heap.size := (by omega)
    have k0_0_w3 : w3.cell? ⟨w.heap.size, 0, none⟩ = some (.int .i64 (az)) := (by first | exact (c_w3 _ _ (by omega)).trans (by go_simp) | go_simp)
    have l0_0_w3 : w3.frozen? ⟨w.heap.size, 0, none⟩ = false := (by first | exact (f_w3 _ _ (by omega)).trans (by go_simp) | go_simp)
    have k0_1_w3 : w3.cell? ⟨w.heap.size, 1, none⟩ = some (.int .i64 (sl)) := (by first | exact (c_w3 _ _ (by omega)).trans (by go_simp) | go_simp)
    have l0_1_w3 : w3.frozen? ⟨w.heap.size, 1, none⟩ = false := (by first | exact (f_w3 _ _ (by omega)).trans (by go_simp) | go_simp)
    clear c_w3 f_w3
    go_wp2_with fail
    refine (IU.out _).mono ?_
    rintro _ w4 ⟨rfl, b_w4⟩
    obtain ⟨c_w4, f_w4, z_w4⟩ := bfacts b_w4 (by first | (simp; rfl) | rfl)
    go_wp2
    go_ret
    exact ⟨rfl, by (repeat' (first | with_reducible exact Below.refl _ _ | with_reducible refine Below.setCell ?_ ?_ _ | with_reducible refine Below.drew ?_ | with_reducible refine below_drewN ?_ _ | with_reducible refine Below.alloc ?_ ?_ _ | with_reducible refine below_step b_w4 ?_ ?_ | with_reducible refine below_step b_w3 ?_ ?_ | with_reducible refine below_step b_w2 ?_ ?_ | with_reducible refine below_step b_w1 ?_ ?_ | omega | (simp; done) | (simp; omega)))⟩
  · cases q : (inB lat (-324000) 324000 && dayB n)
    · have su := fun w => sLitMinutes_no2 az sl lat n w p q
      have iu := fun w => LitMinutes_no2 az sl lat n w p q
      have SU := Lib.hid su; have IU := Lib.hid iu; clear su iu
      go_enter Try.func8, Try.ntmps8
      go_wp2_with fail
      refine (toWall_any az sl _).mono ?_
      rintro _ w1 ⟨rfl, b_w1⟩
      obtain ⟨c_w1, f_w1, z_w1⟩ := bfacts b_w1 (by first | (simp; rfl) | rfl)
      have y0_w1 : w.heap.size < w1.heap.size := (by omega)
      have k0_0_w1 : w1.cell? ⟨w.heap.size, 0, none⟩ = some (.int .i64 (az)) := (by first | exact (c_w1 _ _ (by omega)).trans (by go_simp) | go_simp)
      have l0_0_w1 : w1.frozen? ⟨w.heap.size, 0, none⟩ = false := (by first | exact (f_w1 _ _ (by omega)).trans (by go_simp) | go_simp)
      have k0_1_w1 : w1.cell? ⟨w.heap.size, 1, none⟩ = some (.int .i64 (sl)) := (by first | exact (c_w1 _ _ (by omega)).trans (by go_simp) | go_simp)
      have l0_1_w1 : w1.frozen? ⟨w.heap.size, 1, none⟩ = false := (by first | exact (f_w1 _ _ (by omega)).trans (by go_simp) | go_simp)
      clear c_w1 f_w1
      go_wp2_with fail
      refine (SU.out _).mono ?_
      rintro _ w2 ⟨rfl, b_w2⟩
      obtain ⟨c_w2, f_w2, z_w2⟩ := bfacts b_w2 (by first | (simp; rfl) | rfl)
      have y0_w2 : w.heap.size < w2.heap.size := (by omega)
      have k0_0_w2 : w2.cell? ⟨w.heap.size, 0, none⟩ = some (.int .i64 (az)) := (by first | exact (c_w2 _ _ (by omega)).trans (by go_simp) | go_simp)
      have l0_0_w2 : w2.frozen? ⟨w.heap.size, 0, none⟩ = false := (by first | exact (f_w2 _ _ (by omega)).trans (by go_simp) | go_simp)
      have k0_1_w2 : w2.cell? ⟨w.heap.size, 1, none⟩ = some (.int .i64 (sl)) := (by first | exact (c_w2 _ _ (by omega)).trans (by go_simp) | go_simp)
      have l0_1_w2 : w2.frozen? ⟨w.heap.size, 1, none⟩ = false := (by first | exact (f_w2 _ _ (by omega)).trans (by go_simp) | go_simp)
      clear c_w2 f_w2
      go_wp2_with fail
      refine (toWall_any az sl _).mono ?_
      rintro _ w3 ⟨rfl, b_w3⟩
      obtain ⟨c_w3, f_w3, z_w3⟩ := bfacts b_w3 (by first | (simp; rfl) | rfl)
      have y0_w3 : w.heap.size < w3.heap.size := (by omega)
      have k0_0_w3 : w3.cell? ⟨w.heap.size, 0, none⟩ = some (.int .i64 (az)) := (by first | exact (c_w3 _ _ (by omega)).trans (by go_simp) | go_simp)
      have l0_0_w3 : w3.frozen? ⟨w.heap.size, 0, none⟩ = false := (by first | exact (f_w3 _ _ (by omega)).trans (by go_simp) | go_simp)
      have k0_1_w3 : w3.cell? ⟨w.heap.size, 1, none⟩ = some (.int .i64 (sl)) := (by first | exact (c_w3 _ _ (by omega)).trans (by go_simp) | go_simp)
      have l0_1_w3 : w3.frozen? ⟨w.heap.size, 1, none⟩ = false := (by first | exact (f_w3 _ _ (by omega)).trans (by go_simp) | go_simp)
      clear c_w3 f_w3
      go_wp2_with fail
      refine (IU.out _).mono ?_
      rintro _ w4 ⟨rfl, b_w4⟩
      obtain ⟨c_w4, f_w4, z_w4⟩ := bfacts b_w4 (by first | (simp; rfl) | rfl)
      go_wp2
      go_ret
      exact ⟨rfl, by (repeat' (first | with_reducible exact Below.refl _ _ | with_reducible refine Below.setCell ?_ ?_ _ | with_reducible refine Below.drew ?_ | with_reducible refine below_drewN ?_ _ | with_reducible refine Below.alloc ?_ ?_ _ | with_reducible refine below_step b_w4 ?_ ?_ | with_reducible refine below_step b_w3 ?_ ?_ | with_reducible refine below_step b_w2 ?_ ?_ | with_reducible refine below_step b_w1 ?_ ?_ | omega | (simp; done) | (simp; omega)))⟩
    · have su := fun w => sLitMinutes_yes az sl lat n w p q
      have iu := fun w => LitMinutes_yes az sl lat n w p q
      generalize liN (fun i => liB az sl lat (deI n).lo (deI n).hi i) 1440 = r at su iu
      have SU := Lib.hid su; have IU := Lib.hid iu; clear su iu
      go_enter Try.func8, Try.ntmps8
      go_wp2_with fail
      refine (toWall_any az sl _).mono ?_
      rintro _ w1 ⟨rfl, b_w1⟩
      obtain ⟨c_w1, f_w1, z_w1⟩ := bfacts b_w1 (by first | (simp; rfl) | rfl)
      have y0_w1 : w.heap.size < w1.heap.size := (by omega)
      have k0_0_w1 : w1.cell? ⟨w.heap.size, 0, none⟩ = some (.int .i64 (az)) := (by first | exact (c_w1 _ _ (by omega)).trans (by go_simp) | go_simp)
      have l0_0_w1 : w1.frozen? ⟨w.heap.size, 0, none⟩ = false := (by first | exact (f_w1 _ _ (by omega)).trans (by go_simp) | go_simp)
      have k0_1_w1 : w1.cell? ⟨w.heap.size, 1, none⟩ = some (.int .i64 (sl)) := (by first | exact (c_w1 _ _ (by omega)).trans (by go_simp) | go_simp)
      have l0_1_w1 : w1.frozen? ⟨w.heap.size, 1, none⟩ = false := (by first | exact (f_w1 _ _ (by omega)).trans (by go_simp) | go_simp)
      clear c_w1 f_w1
      go_wp2_with fail
      refine (SU.out _).mono ?_
      rintro _ w2 ⟨rfl, b_w2⟩
      obtain ⟨c_w2, f_w2, z_w2⟩ := bfacts b_w2 (by first | (simp; rfl) | rfl)
      have y0_w2 : w.heap.size < w2.heap.size := (by omega)
      have k0_0_w2 : w2.cell? ⟨w.heap.size, 0, none⟩ = some (.int .i64 (az)) := (by first | exact (c_w2 _ _ (by omega)).trans (by go_simp) | go_simp)
      have l0_0_w2 : w2.frozen? ⟨w.heap.size, 0, none⟩ = false := (by first | exact (f_w2 _ _ (by omega)).trans (by go_simp) | go_simp)
      have k0_1_w2 : w2.cell? ⟨w.heap.size, 1, none⟩ = some (.int .i64 (sl)) := (by first | exact (c_w2 _ _ (by omega)).trans (by go_simp) | go_simp)
      have l0_1_w2 : w2.frozen? ⟨w.heap.size, 1, none⟩ = false := (by first | exact (f_w2 _ _ (by omega)).trans (by go_simp) | go_simp)
      clear c_w2 f_w2
      go_wp2_with fail
      refine (toWall_any az sl _).mono ?_
      rintro _ w3 ⟨rfl, b_w3⟩
      obtain ⟨c_w3, f_w3, z_w3⟩ := bfacts b_w3 (by first | (simp; rfl) | rfl)
      have y0_w3 : w.heap.size < w3.heap.size := (by omega)
      have k0_0_w3 : w3.cell? ⟨w.heap.size, 0, none⟩ = some (.int .i64 (az)) := (by first | exact (c_w3 _ _ (by omega)).trans (by go_simp) | go_simp)
      have l0_0_w3 : w3.frozen? ⟨w.heap.size, 0, none⟩ = false := (by first | exact (f_w3 _ _ (by omega)).trans (by go_simp) | go_simp)
      have k0_1_w3 : w3.cell? ⟨w.heap.size, 1, none⟩ = some (.int .i64 (sl)) := (by first | exact (c_w3 _ _ (by omega)).trans (by go_simp) | go_simp)
      have l0_1_w3 : w3.frozen? ⟨w.heap.size, 1, none⟩ = false := (by first | exact (f_w3 _ _ (by omega)).trans (by go_simp) | go_simp)
      clear c_w3 f_w3
      go_wp2_with fail
      refine (IU.out _).mono ?_
      rintro _ w4 ⟨rfl, b_w4⟩
      obtain ⟨c_w4, f_w4, z_w4⟩ := bfacts b_w4 (by first | (simp; rfl) | rfl)
      go_wp2
      go_ret
      exact ⟨rfl, by (repeat' (first | with_reducible exact Below.refl _ _ | with_reducible refine Below.setCell ?_ ?_ _ | with_reducible refine Below.drew ?_ | with_reducible refine below_drewN ?_ _ | with_reducible refine Below.alloc ?_ ?_ _ | with_reducible refine below_step b_w4 ?_ ?_ | with_reducible refine below_step b_w3 ?_ ?_ | with_reducible refine below_step b_w2 ?_ ?_ | with_reducible refine below_step b_w1 ?_ ?_ | omega | (simp; done) | (simp; omega)))⟩
set_option maxRecDepth 100000 in
theorem lifted_FnExactLitMinutes (os : Os) (started : os.Started) (H : Type) (enc : TypeId × Value → H) :
    ReturnsInHanded {} Try.checked os 8 .any (Rows.fnExactLitMinutesSpec.pre6 enc Try.prog Try.f8 Rows.fnExactLitMinutesRow.domain false) (Rows.fnExactLitMinutesSpec.post enc Try.prog Try.f8 false true false false) := by
  refine returnsInHanded_of_change (C := Try.checked) prog_own started (by kernel_rfl) Try.func8
    (ChangeSpec.witness6 (enc := enc) (C := Try.checked) false ⟨#[], #[.agg #[.int .i64 0, .int .i64 0], .int .i64 0, .int .i64 0], []⟩ 8 (by kernel_rfl) (by kernel_rfl) (by kernel_rfl) (by kernel_rfl)) ?_
  intro W base args ds gs before hval0 hW hcnd _
  have hval : ∀ (j : Nat) t v, Try.f8.params[j]? = some t → args[j]? = some v → Value.okWide Try.prog W .any base t v := hval0
  have hW' := hW
  obtain ⟨p, q, hA0, hV, rfl, hfz, hnd⟩ := hW
  have hA : DataW.TrodAll enc Try.prog W 0 (fun _ => true) true Try.f8.params.toList args.toList ds p := hA0
  rw [Try.params8] at hA hval
  obtain ⟨v0, vs0, d0, ds0, p0, q0, hargs, rfl, rfl, h0, r0⟩ := trodAll_cons hA
  obtain ⟨v1, vs1, d1, ds1, p1, q1, rfl, rfl, rfl, h1, r1⟩ := trodAll_cons r0
  obtain ⟨v2, vs2, d2, ds2, p2, q2, rfl, rfl, rfl, h2, r2⟩ := trodAll_cons r1
  obtain ⟨rfl, rfl, rfl⟩ := trodAll_nil r2
  obtain rfl : args = #[v0, v1, v2] := by cases args; simp_all
  obtain ⟨rfl, rfl⟩ := trodVars_none hV
  obtain ⟨rfl, cs0, rfl, sz0, hi0⟩ := open_i64s (k := 4) Try.underlying45 (by kernel_rfl) (hval 0 45 v0 rfl rfl) h0
  obtain ⟨a0, a1, rfl, wa0, wa1⟩ := ints2 (sz0.trans (by kernel_rfl)) hi0
  obtain ⟨a2, rfl, rfl, rfl, wa2⟩ := open_int Try.underlying2 (hval 1 2 v1 rfl rfl) h1
  obtain ⟨a3, rfl, rfl, rfl, wa3⟩ := open_int Try.underlying2 (hval 2 2 v2 rfl rfl) h2
  clear hA0 hval0
  simp only [List.append_nil] at hW'
  refine (walk_FnExactLitMinutes a0 a1 a2 a3 (bounds_i64 wa0) (bounds_i64 wa1) (bounds_i64 wa2) (bounds_i64 wa3) W).mono fun e W' ⟨he, hb⟩ => ?_
  subst he
  exact ⟨_, rfl, post_of_below (pa := []) (pv := []) hW' (fun _ _ _ => (trodAll_cons_mk (shut_bool Try.underlying4 _) trodAll_mk0)) (fun sp _ => (trodAll_cons_mk (Trod_i64_any (k := 4) (by kernel_rfl) h0) (trodAll_cons_mk (Trod_i64_any (k := 4) (by kernel_rfl) h1) (trodAll_cons_mk (Trod_i64_any (k := 4) (by kernel_rfl) h2) (trodAll_mk0))))) (fun _ _ => rfl) rfl hb (ok_one (by kernel_rfl) rfl (okWide_bool_mk Try.underlying4 _))⟩

theorem FnExactLitMinutes_holds : Rows.FnExactLitMinutesSaid :=
  OpenClaim.holds_of_wide 8 Try.f8 rfl rfl rfl rfl rfl rfl rfl ⟨rfl, rfl, rfl, rfl, rfl⟩ rfl rfl rfl rfl rfl (by kernel_rfl) Try.func8 (by kernel_rfl)
    (of_decide_eq_true (by kernel_rfl)) (by unfold Func.isWrapper; first | (rw [if_pos (by decide +kernel)]; kernel_rfl) | (rw [if_neg (by decide +kernel)]; exact ⟨rfl, rfl⟩))
    (fun os started H enc _ => lifted_FnExactLitMinutes os started H enc)

#print axioms FnExactLitMinutes_holds


end Go.Proofs.Ytikmepppnechaaa
