/- The law on the speed of a shadow: for all arguments the program returns what the reference returns. No condition. -/
import Derived.Test.YteooegliepbcnaaGreatR4
import Derived.Test.YteooegliepbcnaaGreatRS4
import Derived.Test.YteooegliepbcnaaGreatG
import Derived.Test.YteooegliepbcnaaGreatE
import Derived.Test.YteooegliepbcnaaGreatRowKit
namespace Go.Proofs.YteooegliepbcnaaGreat
set_option linter.unusedVariables false
set_option linter.unusedSimpArgs false
set_option maxRecDepth 10000
open Go.ChangeShapes Go.WideShapes Go.ChangeAt Go.RowKit


theorem shadow_gen (lat az sl h n m : Int) (l0 : -324000 ≤ lat) (l1 : lat ≤ 324000) (h0 : 1 ≤ h) (h1 : h ≤ 10000) (z0 : 0 ≤ az) (z1 : az ≤ 1295999) (y0 : -324000 ≤ sl) (y1 : sl ≤ 324000) (n0 : -1000000 ≤ n) (n1 : n ≤ 1000000) (m0 : 0 ≤ m) (m1 : m ≤ 1439) :
    ∃ p : P2, (∀ w, Calls Tryz.prog 62 #[(.agg #[.int .i64 (lat), .int .i64 (az), .int .i64 (sl), .int .i64 (h)]), .int .i64 n, .int .i64 m] w fun e w' => e = .returned (.tuple #[(.agg #[.int .i64 (p.x.lo), .int .i64 (p.x.hi), .int .i64 (p.y.lo), .int .i64 (p.y.hi)]), .bool (shB az sl h (suV lat (deI n).lo (deI n).hi m))]) ∧ Below w.heap.size w w') ∧ (shB az sl h (suV lat (deI n).lo (deI n).hi m) = true → p = spP h (paV az sl (suV lat (deI n).lo (deI n).hi m))) := by
  cases k : shB az sl h (suV lat (deI n).lo (deI n).hi m)
  · exact ⟨⟨⟨0, 0⟩, ⟨0, 0⟩⟩, fun w => shadow_no lat az sl h n m w l0 l1 h0 h1 z0 z1 y0 y1 n0 n1 m0 m1 k, fun e => by cases e⟩
  · exact ⟨_, fun w => shadow_yes lat az sl h n m w l0 l1 h0 h1 z0 z1 y0 y1 n0 n1 m0 m1 k, fun _ => rfl⟩
theorem sShadow_gen (lat az sl h n m : Int) (l0 : -324000 ≤ lat) (l1 : lat ≤ 324000) (h0 : 1 ≤ h) (h1 : h ≤ 10000) (m0 : 0 ≤ m) (m1 : m ≤ 1439) :
    ∃ p : P2, (∀ (g : Nat) (w : World), w.heap[g]? = some (.cells #[.int .i64 (toV (az - 324000) 0).x.lo, .int .i64 (toV (az - 324000) 0).x.hi, .int .i64 (toV (az - 324000) 0).y.lo, .int .i64 (toV (az - 324000) 0).y.hi, .int .i64 (toV (az - 324000) 0).z.lo, .int .i64 (toV (az - 324000) 0).z.hi, .int .i64 (toV az (sl + 324000)).x.lo, .int .i64 (toV az (sl + 324000)).x.hi, .int .i64 (toV az (sl + 324000)).y.lo, .int .i64 (toV az (sl + 324000)).y.hi, .int .i64 (toV az (sl + 324000)).z.lo, .int .i64 (toV az (sl + 324000)).z.hi, .int .i64 (toV az sl).x.lo, .int .i64 (toV az sl).x.hi, .int .i64 (toV az sl).y.lo, .int .i64 (toV az sl).y.hi, .int .i64 (toV az sl).z.lo, .int .i64 (toV az sl).z.hi] 102) → Calls Tryz.prog 56 #[.agg #[.int .i64 lat, .int .i64 az, .int .i64 sl, .int .i64 h, .int .i64 (deI n).lo, .int .i64 (deI n).hi, .slice (some ⟨g, 0, none⟩) 3 3], .int .i64 m] w fun e w' => e = .returned (.tuple #[(.agg #[.int .i64 (p.x.lo), .int .i64 (p.x.hi), .int .i64 (p.y.lo), .int .i64 (p.y.hi)]), .bool (shB az sl h (suV lat (deI n).lo (deI n).hi m))]) ∧ Below w.heap.size w w') ∧ (shB az sl h (suV lat (deI n).lo (deI n).hi m) = true → p = spP h (paV az sl (suV lat (deI n).lo (deI n).hi m))) := by
  have dd := deI_bd n
  cases k : shB az sl h (suV lat (deI n).lo (deI n).hi m)
  · obtain ⟨r, hr⟩ := sShadow_no lat az sl h (deI n).lo (deI n).hi m l0 l1 h0 h1 (by omega) (by omega) (by omega) (by omega) m0 m1 k
    exact ⟨r, hr, fun e => by cases e⟩
  · exact ⟨_, fun g w hg => sShadow_yes lat az sl h (deI n).lo (deI n).hi m l0 l1 h0 h1 (by omega) (by omega) (by omega) (by omega) m0 m1 k g w hg, fun _ => rfl⟩
set_option maxHeartbeats 1000000 in
theorem walk_FnExactShadowSpeed (lat az sl h n m : Int) (_ : -9223372036854775808 ≤ lat ∧ lat ≤ 9223372036854775807) (_ : -9223372036854775808 ≤ az ∧ az ≤ 9223372036854775807) (_ : -9223372036854775808 ≤ sl ∧ sl ≤ 9223372036854775807) (_ : -9223372036854775808 ≤ h ∧ h ≤ 9223372036854775807) (_ : -9223372036854775808 ≤ n ∧ n ≤ 9223372036854775807) (_ : -9223372036854775808 ≤ m ∧ m ≤ 9223372036854775807) (w : World) :
    Calls Tryz.prog 3 #[(.agg #[.int .i64 (lat), .int .i64 (az), .int .i64 (sl), .int .i64 (h)]), .int .i64 n, .int .i64 m] w fun e w' => e = .returned (.bool true) ∧ Below w.heap.size w w' := by
  obtain ⟨v, c, su, iu⟩ : ∃ (v c : Int), (∀ w, Calls Tryz.prog 15 #[(.agg #[.int .i64 (lat), .int .i64 (az), .int .i64 (sl), .int .i64 (h)]), .int .i64 n, .int .i64 m] w fun e w' => e = .returned (.tuple #[.int .i64 v, .int .i64 c]) ∧ Below w.heap.size w w') ∧
      (∀ w, Calls Tryz.prog 17 #[(.agg #[.int .i64 (lat), .int .i64 (az), .int .i64 (sl), .int .i64 (h)]), .int .i64 n, .int .i64 m] w fun e w' => e = .returned (.tuple #[.int .i64 v, .int .i64 c]) ∧ Below w.heap.size w w') := by
    by_cases k : dcM (dlB lat az sl h) (dayB n && inB m 0 1438) = 0
    · obtain ⟨d, q, r⟩ : dlB lat az sl h = true ∧ dayB n = true ∧ inB m 0 1438 = true := by
        revert k
        cases dlB lat az sl h <;> cases dayB n <;> cases inB m 0 1438 <;> simp [dcM]
      obtain ⟨l0, l1, z0, z1, y0, y1, h0, h1⟩ := dlB_t d
      obtain ⟨n0, n1⟩ := dayB_t q
      have m0 := inB_iff.1 r
      obtain ⟨p, ip, ep⟩ := shadow_gen lat az sl h n m l0 l1 h0 h1 z0 z1 y0 y1 n0 n1 (by omega) (by omega)
      obtain ⟨p', ip', ep'⟩ := shadow_gen lat az sl h n (m + 1) l0 l1 h0 h1 z0 z1 y0 y1 n0 n1 (by omega) (by omega)
      obtain ⟨s, is, es⟩ := sShadow_gen lat az sl h n m l0 l1 h0 h1 (by omega) (by omega)
      obtain ⟨s', is', es'⟩ := sShadow_gen lat az sl h n (m + 1) l0 l1 h0 h1 (by omega) (by omega)
      have eq : spM (shB az sl h (suV lat (deI n).lo (deI n).hi m)) (shB az sl h (suV lat (deI n).lo (deI n).hi (m + 1))) (sqM (mdX s') (mdY s') (mdX s) (mdY s)) = spM (shB az sl h (suV lat (deI n).lo (deI n).hi m)) (shB az sl h (suV lat (deI n).lo (deI n).hi (m + 1))) (sqM (mdX p) (mdY p) (mdX p') (mdY p')) := by
        unfold spM
        by_cases b : (shB az sl h (suV lat (deI n).lo (deI n).hi m) && shB az sl h (suV lat (deI n).lo (deI n).hi (m + 1))) = true
        · rw [if_pos b, if_pos b]
          rw [Bool.and_eq_true] at b
          rw [ep b.1, ep' b.2, es b.1, es' b.2]
          exact sqM_comm _ _ _ _
        · rw [if_neg b, if_neg b]
      have co : ∀ w, Calls Tryz.prog 53 #[(.agg #[.int .i64 (lat), .int .i64 (az), .int .i64 (sl), .int .i64 (h)]), .int .i64 n] w fun e w' => e = .returned (.int .i64 0) ∧ Below w.heap.size w w' := fun w => by
        have := sCode_any lat az sl h n w
        rw [d, q] at this
        exact this
      refine ⟨_, _, fun w => ?_, fun w => ShadowSpeed_walk lat az sl h n m w d q r p p' _ _ ip ip' (fun b => by rw [ep b]; exact shB_pl b) (fun b => by rw [ep' b]; exact shB_pl b)⟩
      have := sShadowSpeed_walk lat az sl h n m (deI n).lo (deI n).hi w r s s' _ _ _ _ _ co (fun w => sMakeD_any lat az sl h n w z0 z1 y0 y1 n0 n1) is is' (fun b => by rw [es b]; exact shB_pl b) (fun b => by rw [es' b]; exact shB_pl b)
      rw [eq] at this
      exact this
    · exact ⟨0, _, fun w => sShadowSpeed_err lat az sl h n m _ w k rfl, fun w => ShadowSpeed_err lat az sl h n m _ w k rfl⟩
  have SU := Lib.hid su; have IU := Lib.hid iu; clear su iu
  go_enter Tryz.func3, Tryz.ntmps3
  go_wp2_with fail
  refine (toDial_any lat az sl h _).mono ?_
  rintro _ w1 ⟨rfl, b_w1⟩
  obtain ⟨c_w1, f_w1, z_w1⟩ := bfacts b_w1 (by first | (simp; rfl) | rfl)
  have y0_w1 : w.heap.size < w1.heap.size := (by omega)
  have k0_0_w1 : w1.cell? ⟨w.heap.size, 0, none⟩ = some (.int .i64 (lat)) := (by first | exact (c_w1 _ _ (by omega)).trans (by go_simp) | go_simp)
  have l0_0_w1 : w1.frozen? ⟨w.heap.size, 0, none⟩ = false := (by first | exact (f_w1 _ _ (by omega)).trans (by go_simp) | go_simp)
  have k0_1_w1 : w1.cell? ⟨w.heap.size, 1, none⟩ = some (.int .i64 (az)) := (by first | exact (c_w1 _ _ (by omega)).trans (by go_simp) | go_simp)
  have l0_1_w1 : w1.frozen? ⟨w.heap.size, 1, none⟩ = false := (by first | exact (f_w1 _ _ (by omega)).trans (by go_simp) | go_simp)
  have k0_2_w1 : w1.cell? ⟨w.heap.size, 2, none⟩ = some (.int .i64 (sl)) := (by first | exact (c_w1 _ _ (by omega)).trans (by go_simp) | go_simp)
  have l0_2_w1 : w1.frozen? ⟨w.heap.size, 2, none⟩ = false := (by first | exact (f_w1 _ _ (by omega)).trans (by go_simp) | go_simp)
  have k0_3_w1 : w1.cell? ⟨w.heap.size, 3, none⟩ = some (.int .i64 (h)) := (by first | exact (c_w1 _ _ (by omega)).trans (by go_simp) | go_simp)
  have l0_3_w1 : w1.frozen? ⟨w.heap.size, 3, none⟩ = false := (by first | exact (f_w1 _ _ (by omega)).trans (by go_simp) | go_simp)
  clear c_w1 f_w1
  go_wp2_with fail
  refine (SU.out _).mono ?_
  rintro _ w2 ⟨rfl, b_w2⟩
  obtain ⟨c_w2, f_w2, z_w2⟩ := bfacts b_w2 (by first | (simp; rfl) | rfl)
  have y0_w2 : w.heap.size < w2.heap.size := (by omega)
  have k0_0_w2 : w2.cell? ⟨w.heap.size, 0, none⟩ = some (.int .i64 (lat)) := (by first | exact (c_w2 _ _ (by omega)).trans (by go_simp) | go_simp)
  have l0_0_w2 : w2.frozen? ⟨w.heap.size, 0, none⟩ = false := (by first | exact (f_w2 _ _ (by omega)).trans (by go_simp) | go_simp)
  have k0_1_w2 : w2.cell? ⟨w.heap.size, 1, none⟩ = some (.int .i64 (az)) := (by first | exact (c_w2 _ _ (by omega)).trans (by go_simp) | go_simp)
  have l0_1_w2 : w2.frozen? ⟨w.heap.size, 1, none⟩ = false := (by first | exact (f_w2 _ _ (by omega)).trans (by go_simp) | go_simp)
  have k0_2_w2 : w2.cell? ⟨w.heap.size, 2, none⟩ = some (.int .i64 (sl)) := (by first | exact (c_w2 _ _ (by omega)).trans (by go_simp) | go_simp)
  have l0_2_w2 : w2.frozen? ⟨w.heap.size, 2, none⟩ = false := (by first | exact (f_w2 _ _ (by omega)).trans (by go_simp) | go_simp)
  have k0_3_w2 : w2.cell? ⟨w.heap.size, 3, none⟩ = some (.int .i64 (h)) := (by first | exact (c_w2 _ _ (by omega)).trans (by go_simp) | go_simp)
  have l0_3_w2 : w2.frozen? ⟨w.heap.size, 3, none⟩ = false := (by first | exact (f_w2 _ _ (by omega)).trans (by go_simp) | go_simp)
  clear c_w2 f_w2
  go_wp2_with fail
  refine (toDial_any lat az sl h _).mono ?_
  rintro _ w3 ⟨rfl, b_w3⟩
  obtain ⟨c_w3, f_w3, z_w3⟩ := bfacts b_w3 (by first | (simp; rfl) | rfl)
  have y0_w3 : w.heap.size < w3.heap.size := (by omega)
  have k0_0_w3 : w3.cell? ⟨w.heap.size, 0, none⟩ = some (.int .i64 (lat)) := (by first | exact (c_w3 _ _ (by omega)).trans (by go_simp) | go_simp)
  have l0_0_w3 : w3.frozen? ⟨w.heap.size, 0, none⟩ = false := (by first | exact (f_w3 _ _ (by omega)).trans (by go_simp) | go_simp)
  have k0_1_w3 : w3.cell? ⟨w.heap.size, 1, none⟩ = some (.int .i64 (az)) := (by first | exact (c_w3 _ _ (by omega)).trans (by go_simp) | go_simp)
  have l0_1_w3 : w3.frozen? ⟨w.heap.size, 1, none⟩ = false := (by first | exact (f_w3 _ _ (by omega)).trans (by go_simp) | go_simp)
  have k0_2_w3 : w3.cell? ⟨w.heap.size, 2, none⟩ = some (.int .i64 (sl)) := (by first | exact (c_w3 _ _ (by omega)).trans (by go_simp) | go_simp)
  have l0_2_w3 : w3.frozen? ⟨w.heap.size, 2, none⟩ = false := (by first | exact (f_w3 _ _ (by omega)).trans (by go_simp) | go_simp)
  have k0_3_w3 : w3.cell? ⟨w.heap.size, 3, none⟩ = some (.int .i64 (h)) := (by first | exact (c_w3 _ _ (by omega)).trans (by go_simp) | go_simp)
  have l0_3_w3 : w3.frozen? ⟨w.heap.size, 3, none⟩ = false := (by first | exact (f_w3 _ _ (by omega)).trans (by go_simp) | go_simp)
  clear c_w3 f_w3
  go_wp2_with fail
  refine (IU.out _).mono ?_
  rintro _ w4 ⟨rfl, b_w4⟩
  obtain ⟨c_w4, f_w4, z_w4⟩ := bfacts b_w4 (by first | (simp; rfl) | rfl)
  go_wp2
  go_ret
  exact ⟨rfl, by (repeat' (first | with_reducible exact Below.refl _ _ | with_reducible refine Below.setCell ?_ ?_ _ | with_reducible refine Below.drew ?_ | with_reducible refine below_drewN ?_ _ | with_reducible refine Below.alloc ?_ ?_ _ | with_reducible refine below_step b_w4 ?_ ?_ | with_reducible refine below_step b_w3 ?_ ?_ | with_reducible refine below_step b_w2 ?_ ?_ | with_reducible refine below_step b_w1 ?_ ?_ | omega | (simp; done) | (simp; omega)))⟩
set_option maxRecDepth 100000 in
theorem lifted_FnExactShadowSpeed (os : Os) (started : os.Started) (H : Type) (enc : TypeId × Value → H) :
    ReturnsInHanded {} Tryz.checked os 3 .any (Rows.fnExactShadowSpeedSpec.pre6 enc Tryz.prog Tryz.f3 Rows.fnExactShadowSpeedRow.domain false) (Rows.fnExactShadowSpeedSpec.post enc Tryz.prog Tryz.f3 false true false false) := by
  refine returnsInHanded_of_change (C := Tryz.checked) prog_own started (by kernel_rfl) Tryz.func3
    (ChangeSpec.witness6 (enc := enc) (C := Tryz.checked) false ⟨#[], #[.agg #[.int .i64 0, .int .i64 0, .int .i64 0, .int .i64 0], .int .i64 0, .int .i64 0], []⟩ 8 (by kernel_rfl) (by kernel_rfl) (by kernel_rfl) (by kernel_rfl)) ?_
  intro W base args ds gs before hval0 hW hcnd _
  have hval : ∀ (j : Nat) t v, Tryz.f3.params[j]? = some t → args[j]? = some v → Value.okWide Tryz.prog W .any base t v := hval0
  have hW' := hW
  obtain ⟨p, q, hA0, hV, rfl, hfz, hnd⟩ := hW
  have hA : DataW.TrodAll enc Tryz.prog W 0 (fun _ => true) true Tryz.f3.params.toList args.toList ds p := hA0
  rw [Tryz.params3] at hA hval
  obtain ⟨v0, vs0, d0, ds0, p0, q0, hargs, rfl, rfl, h0, r0⟩ := trodAll_cons hA
  obtain ⟨v1, vs1, d1, ds1, p1, q1, rfl, rfl, rfl, h1, r1⟩ := trodAll_cons r0
  obtain ⟨v2, vs2, d2, ds2, p2, q2, rfl, rfl, rfl, h2, r2⟩ := trodAll_cons r1
  obtain ⟨rfl, rfl, rfl⟩ := trodAll_nil r2
  obtain rfl : args = #[v0, v1, v2] := by cases args; simp_all
  obtain ⟨rfl, rfl⟩ := trodVars_none hV
  obtain ⟨rfl, cs0, rfl, sz0, hi0⟩ := open_i64s (k := 4) Tryz.underlying25 (by kernel_rfl) (hval 0 25 v0 rfl rfl) h0
  obtain ⟨a0, a1, a2, a3, rfl, wa0, wa1, wa2, wa3⟩ := ints4 (sz0.trans (by kernel_rfl)) hi0
  obtain ⟨a4, rfl, rfl, rfl, wa4⟩ := open_int Tryz.underlying2 (hval 1 2 v1 rfl rfl) h1
  obtain ⟨a5, rfl, rfl, rfl, wa5⟩ := open_int Tryz.underlying2 (hval 2 2 v2 rfl rfl) h2
  clear hA0 hval0
  simp only [List.append_nil] at hW'
  refine (walk_FnExactShadowSpeed a0 a1 a2 a3 a4 a5 (bounds_i64 wa0) (bounds_i64 wa1) (bounds_i64 wa2) (bounds_i64 wa3) (bounds_i64 wa4) (bounds_i64 wa5) W).mono fun e W' ⟨he, hb⟩ => ?_
  subst he
  exact ⟨_, rfl, post_of_below (pa := []) (pv := []) hW' (fun _ _ _ => (trodAll_cons_mk (shut_bool Tryz.underlying4 _) trodAll_mk0)) (fun sp _ => (trodAll_cons_mk (Trod_i64_any (k := 4) (by kernel_rfl) h0) (trodAll_cons_mk (Trod_i64_any (k := 4) (by kernel_rfl) h1) (trodAll_cons_mk (Trod_i64_any (k := 4) (by kernel_rfl) h2) (trodAll_mk0))))) (fun _ _ => rfl) rfl hb (ok_one (by kernel_rfl) rfl (okWide_bool_mk Tryz.underlying4 _))⟩

theorem FnExactShadowSpeed_holds : Rows.FnExactShadowSpeedSaid :=
  OpenClaim.holds_of_wide 3 Tryz.f3 rfl rfl rfl rfl rfl rfl rfl ⟨rfl, rfl, rfl, rfl, rfl⟩ rfl rfl rfl rfl rfl (by kernel_rfl) Tryz.func3 (by kernel_rfl)
    (of_decide_eq_true (by kernel_rfl)) (by unfold Func.isWrapper; first | (rw [if_pos (by decide +kernel)]; kernel_rfl) | (rw [if_neg (by decide +kernel)]; exact ⟨rfl, rfl⟩))
    (fun os started H enc _ => lifted_FnExactShadowSpeed os started H enc)

#print axioms FnExactShadowSpeed_holds


end Go.Proofs.YteooegliepbcnaaGreat
