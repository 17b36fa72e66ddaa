/- What the reference's functions of chapters 1 to 5 return. -/
import Derived.Test.YteooegliepbcnaaGreatKit
namespace Go.Proofs.YteooegliepbcnaaGreat
set_option linter.unusedVariables false
set_option linter.unusedSimpArgs false
set_option maxRecDepth 10000
open Go.RowKit


set_option maxHeartbeats 400000 in
theorem sIn_any (n l h : Int) (w : World) :
    Calls Tryz.prog 54 #[.int .i64 n, .int .i64 l, .int .i64 h] w fun e w' => e = .returned (.bool (inB n l h)) ∧ w = w' := by
  go_enter Tryz.func54, Tryz.ntmps54
  by_cases h1 : l ≤ n
  · have hd : decide (l ≤ n) = true := by simpa using h1
    go_wp2
    all_goals go_ret
    all_goals exact ⟨ret_bool (by unfold inB; first | (simp_all; done) | (simp_all; omega)), rfl⟩
  · have hd : decide (l ≤ n) = false := by simpa using h1
    go_wp2
    all_goals go_ret
    all_goals exact ⟨ret_bool (by unfold inB; first | (simp_all; done) | (simp_all; omega)), rfl⟩

set_option maxHeartbeats 400000 in
theorem sIs_any (n : Int) (w : World) :
    Calls Tryz.prog 190 #[.int .i64 n] w fun e w' => e = .returned (.bool (inB n (-1000000000000) 1000000000000)) ∧ w = w' := by
  go_enter Tryz.func190, Tryz.ntmps190
  go_wp2_with (go_at_call 54; refine (sIn_any _ _ _ _).mono ?_; rintro e w' ⟨rfl, rfl⟩)
  go_ret
  exact ⟨rfl, rfl⟩

set_option maxHeartbeats 400000 in
theorem sFloor_pos (a b : Int) (w : World) (hb : 0 < b) (h1 : -4611686018427387904 ≤ a) (h2 : a ≤ 4611686018427387904) (h3 : b ≤ 4611686018427387904) :
    Calls Tryz.prog 100 #[.int .i64 a, .int .i64 b] w fun e w' => e = .returned (.int .i64 (a / b)) ∧ w = w' := by
  have f1 := (tdiv_abs a b hb).1
  have f2 := (tdiv_abs a b hb).2
  have f3 := tdiv_fix a b hb
  have g1 : -4611686018427387904 ≤ a.tdiv b ∧ a.tdiv b ≤ 4611686018427387904 := by omega
  obtain ⟨g1, g2⟩ := g1
  have hb' : decide (b < 0) = false := by simp; omega
  clear f1 f2
  have F := Lib.hid f3; clear f3
  go_enter Tryz.func100, Tryz.ntmps100
  by_cases h : a.tmod b < 0
  · go_wp2
    go_ret
    exact ⟨ret_int (by rw [F.out, if_pos h]), rfl⟩
  · have k2 : decide (a.tmod b < 0) = false := by simp; omega
    go_wp2
    go_ret
    exact ⟨ret_int (by rw [F.out, if_neg (by omega)]), rfl⟩

set_option maxHeartbeats 400000 in
theorem sCeil_pos (a b : Int) (w : World) (hb : 0 < b) (h1 : -4611686018427387904 ≤ a) (h2 : a ≤ 4611686018427387904) (h3 : b ≤ 4611686018427387904) :
    Calls Tryz.prog 145 #[.int .i64 a, .int .i64 b] w fun e w' => e = .returned (.int .i64 (-((-a) / b))) ∧ w = w' := by
  have := div_abs (a := -a) (A := 4611686018427387904) b hb (by omega) (by omega)
  go_enter Tryz.func145, Tryz.ntmps145
  go_wp2_with (go_at_call 100; refine (sFloor_pos _ _ _ hb (by omega) (by omega) h3).mono ?_; rintro e w' ⟨rfl, rfl⟩)
  go_ret
  exact ⟨rfl, rfl⟩

set_option maxHeartbeats 400000 in
theorem sMod_pos (a b : Int) (w : World) (hb : 0 < b) (h1 : -4611686018427387904 ≤ a) (h2 : a ≤ 4611686018427387904) (h3 : b ≤ 4611686018427387904) :
    Calls Tryz.prog 187 #[.int .i64 a, .int .i64 b] w fun e w' => e = .returned (.int .i64 (a % b)) ∧ w = w' := by
  have k := tmod_abs a b hb
  obtain ⟨k1, k2⟩ := k
  have f := tmod_fix a b hb
  have k3 : 0 ≤ a.tmod b + b := by omega
  have g : (a.tmod b + b) % b = a % b := by
    by_cases hh : a.tmod b < 0
    · rw [if_pos hh] at f
      rw [Int.add_emod_right, f, ← Int.add_emod_right (a := a.tmod b), f.symm, Int.emod_emod_of_dvd _ (Int.dvd_refl b)]
    · rw [if_neg hh] at f
      rw [Int.add_emod_right, ← f, Int.emod_emod_of_dvd _ (Int.dvd_refl b)]
  clear f
  have G := Lib.hid g; clear g
  go_enter Tryz.func187, Tryz.ntmps187
  go_wp2
  go_ret
  exact ⟨ret_int G.out, rfl⟩

set_option maxHeartbeats 400000 in
theorem sPlain_any (a : Int) (w : World) (h1 : -4611686018427387904 ≤ a) (h2 : a ≤ 4611686018427387904) :
    Calls Tryz.prog 162 #[.int .i64 a] w fun e w' => e = .returned (.int .i64 (plM a)) ∧ w = w' := by
  go_enter Tryz.func162, Tryz.ntmps162
  go_wp2_with (go_at_call 187; refine (sMod_pos _ _ _ (by omega) h1 h2 (by omega)).mono ?_; rintro e w' ⟨rfl, rfl⟩)
  go_ret
  exact ⟨rfl, rfl⟩

set_option maxHeartbeats 400000 in
theorem sArcXY_any (r : Int) (w : World) (h1 : 0 ≤ r) (h2 : r ≤ 162000) :
    Calls Tryz.prog 199 #[.int .i64 r] w fun e w' => e = .returned (.tuple #[.int .i64 (r * 48481368 / 10000), .int .i64 (r * 48481368 / 10000 * (r * 48481368 / 10000) / 1000000000)]) ∧ w = w' := by
  obtain ⟨a0, a1, x0, x1⟩ := x_bd r h1 h2
  obtain ⟨a2, a3⟩ := mul_bd x0 x1 x0 x1 rfl
  obtain ⟨y0, y1⟩ := div_bd 1000000000 (by omega) a2 a3 rfl
  go_enter Tryz.func199, Tryz.ntmps199
  go_wp2
  go_ret2
  exact ⟨rfl, rfl⟩

set_option maxHeartbeats 2000000 in
theorem sP_any (r : Int) (w : World) (h1 : 0 ≤ r) (h2 : r ≤ 162000) :
    Calls Tryz.prog 188 #[.int .i64 r] w fun e w' => e = .returned (.int .i64 (pM r)) ∧ w = w' := by
  obtain ⟨a0, a1, x0, x1⟩ := x_bd r h1 h2
  obtain ⟨a2, a3⟩ := mul_bd x0 x1 x0 x1 rfl
  obtain ⟨y0, y1⟩ := div_bd 1000000000 (by omega) a2 a3 rfl
  obtain ⟨a4, a5⟩ := mul_bd x0 x1 y0 y1 rfl
  obtain ⟨a6, a7⟩ := div_bd 1000000000 (by omega) a4 a5 rfl
  obtain ⟨t30, t31⟩ := div_bd 6 (by omega) a6 a7 rfl
  obtain ⟨a8, a9⟩ := mul_bd t30 t31 y0 y1 rfl
  obtain ⟨a10, a11⟩ := div_bd 1000000000 (by omega) a8 a9 rfl
  obtain ⟨t50, t51⟩ := div_bd 20 (by omega) a10 a11 rfl
  obtain ⟨a12, a13⟩ := mul_bd t50 t51 y0 y1 rfl
  obtain ⟨a14, a15⟩ := div_bd 1000000000 (by omega) a12 a13 rfl
  obtain ⟨t70, t71⟩ := div_bd 42 (by omega) a14 a15 rfl
  obtain ⟨a16, a17⟩ := mul_bd t70 t71 y0 y1 rfl
  obtain ⟨a18, a19⟩ := div_bd 1000000000 (by omega) a16 a17 rfl
  obtain ⟨t90, t91⟩ := div_bd 72 (by omega) a18 a19 rfl
  go_enter Tryz.func188, Tryz.ntmps188
  go_wp2_with (go_at_call 199; refine (sArcXY_any _ _ h1 h2).mono ?_; rintro e w' ⟨rfl, rfl⟩)
  go_ret
  exact ⟨rfl, rfl⟩

set_option maxHeartbeats 2000000 in
theorem sQ_any (r : Int) (w : World) (h1 : 0 ≤ r) (h2 : r ≤ 162000) :
    Calls Tryz.prog 189 #[.int .i64 r] w fun e w' => e = .returned (.int .i64 (qM r)) ∧ w = w' := by
  obtain ⟨a0, a1, x0, x1⟩ := x_bd r h1 h2
  obtain ⟨a2, a3⟩ := mul_bd x0 x1 x0 x1 rfl
  obtain ⟨y0, y1⟩ := div_bd 1000000000 (by omega) a2 a3 rfl
  obtain ⟨c20, c21⟩ := div_bd 2 (by omega) y0 y1 rfl
  obtain ⟨d0, d1⟩ := mul_bd c20 c21 y0 y1 rfl
  obtain ⟨d2, d3⟩ := div_bd 1000000000 (by omega) d0 d1 rfl
  obtain ⟨c40, c41⟩ := div_bd 12 (by omega) d2 d3 rfl
  obtain ⟨d4, d5⟩ := mul_bd c40 c41 y0 y1 rfl
  obtain ⟨d6, d7⟩ := div_bd 1000000000 (by omega) d4 d5 rfl
  obtain ⟨c60, c61⟩ := div_bd 30 (by omega) d6 d7 rfl
  obtain ⟨d8, d9⟩ := mul_bd c60 c61 y0 y1 rfl
  obtain ⟨d10, d11⟩ := div_bd 1000000000 (by omega) d8 d9 rfl
  obtain ⟨c80, c81⟩ := div_bd 56 (by omega) d10 d11 rfl
  obtain ⟨d12, d13⟩ := mul_bd c80 c81 y0 y1 rfl
  obtain ⟨d14, d15⟩ := div_bd 1000000000 (by omega) d12 d13 rfl
  obtain ⟨c100, c101⟩ := div_bd 90 (by omega) d14 d15 rfl
  go_enter Tryz.func189, Tryz.ntmps189
  go_wp2_with (go_at_call 199; refine (sArcXY_any _ _ h1 h2).mono ?_; rintro e w' ⟨rfl, rfl⟩)
  go_ret
  exact ⟨rfl, rfl⟩

set_option maxHeartbeats 1000000 in
theorem sSine_any (a : Int) (w : World) (h1 : -4611686018427387904 ≤ a) (h2 : a ≤ 4611686018427387904) :
    Calls Tryz.prog 164 #[.int .i64 a] w fun e w' => e = .returned (.int .i64 (nsM a)) ∧ w = w' := by
  obtain ⟨p0, p1⟩ := plM_bd a
  have hN : nsM a = if plM a < 324000 then quM (plM a) else if plM a < 648000 then quM (648000 - plM a) else if plM a < 972000 then -quM (plM a - 648000) else -quM (1296000 - plM a) := rfl
  have HN := Lib.hid hN; clear hN
  go_enter Tryz.func164, Tryz.ntmps164
  rcases (by omega : plM a / 324000 = 0 ∧ plM a % 324000 = plM a ∨ plM a / 324000 = 1 ∧ plM a % 324000 = plM a - 324000 ∨ plM a / 324000 = 2 ∧ plM a % 324000 = plM a - 648000 ∨ plM a / 324000 = 3 ∧ plM a % 324000 = plM a - 972000) with ⟨hq, hr⟩ | ⟨hq, hr⟩ | ⟨hq, hr⟩ | ⟨hq, hr⟩
  · have B := pq_bd
    by_cases hh : plM a ≤ 162000
    · have bb := B (plM a) (by omega) (by omega)
      clear B
      go_wp2_with (first | (go_at_call 162; refine (sPlain_any _ _ h1 h2).mono ?_; rintro e w' ⟨rfl, rfl⟩) | (go_at_call 188; refine (sP_any _ _ (by omega) (by omega)).mono ?_; rintro e w' ⟨rfl, rfl⟩) | (go_at_call 189; refine (sQ_any _ _ (by omega) (by omega)).mono ?_; rintro e w' ⟨rfl, rfl⟩))
      go_ret
      exact ⟨ret_int (by rw [HN.out, if_pos (by omega), quM, if_pos (by omega)]), rfl⟩
    · have bb := B (324000 - (plM a)) (by omega) (by omega)
      clear B
      go_wp2_with (first | (go_at_call 162; refine (sPlain_any _ _ h1 h2).mono ?_; rintro e w' ⟨rfl, rfl⟩) | (go_at_call 188; refine (sP_any _ _ (by omega) (by omega)).mono ?_; rintro e w' ⟨rfl, rfl⟩) | (go_at_call 189; refine (sQ_any _ _ (by omega) (by omega)).mono ?_; rintro e w' ⟨rfl, rfl⟩))
      go_ret
      exact ⟨ret_int (by rw [HN.out, if_pos (by omega), quM, if_neg (by omega)]), rfl⟩
  · have B := pq_bd
    by_cases hh : 324000 - (plM a - 324000) ≤ 162000
    · have bb := B (324000 - (plM a - 324000)) (by omega) (by omega)
      clear B
      go_wp2_with (first | (go_at_call 162; refine (sPlain_any _ _ h1 h2).mono ?_; rintro e w' ⟨rfl, rfl⟩) | (go_at_call 188; refine (sP_any _ _ (by omega) (by omega)).mono ?_; rintro e w' ⟨rfl, rfl⟩) | (go_at_call 189; refine (sQ_any _ _ (by omega) (by omega)).mono ?_; rintro e w' ⟨rfl, rfl⟩))
      go_ret
      exact ⟨ret_int (by rw [HN.out, if_neg (by omega), if_pos (by omega), show 648000 - plM a = 324000 - (plM a - 324000) from by omega, quM, if_pos (by omega)]), rfl⟩
    · have bb := B (324000 - (324000 - (plM a - 324000))) (by omega) (by omega)
      clear B
      go_wp2_with (first | (go_at_call 162; refine (sPlain_any _ _ h1 h2).mono ?_; rintro e w' ⟨rfl, rfl⟩) | (go_at_call 188; refine (sP_any _ _ (by omega) (by omega)).mono ?_; rintro e w' ⟨rfl, rfl⟩) | (go_at_call 189; refine (sQ_any _ _ (by omega) (by omega)).mono ?_; rintro e w' ⟨rfl, rfl⟩))
      go_ret
      exact ⟨ret_int (by rw [HN.out, if_neg (by omega), if_pos (by omega), show 648000 - plM a = 324000 - (plM a - 324000) from by omega, quM, if_neg (by omega)]), rfl⟩
  · have B := pq_bd
    by_cases hh : plM a - 648000 ≤ 162000
    · have bb := B (plM a - 648000) (by omega) (by omega)
      clear B
      go_wp2_with (first | (go_at_call 162; refine (sPlain_any _ _ h1 h2).mono ?_; rintro e w' ⟨rfl, rfl⟩) | (go_at_call 188; refine (sP_any _ _ (by omega) (by omega)).mono ?_; rintro e w' ⟨rfl, rfl⟩) | (go_at_call 189; refine (sQ_any _ _ (by omega) (by omega)).mono ?_; rintro e w' ⟨rfl, rfl⟩))
      go_ret
      exact ⟨ret_int (by rw [HN.out, if_neg (by omega), if_neg (by omega), if_pos (by omega), quM, if_pos (by omega)]), rfl⟩
    · have bb := B (324000 - (plM a - 648000)) (by omega) (by omega)
      clear B
      go_wp2_with (first | (go_at_call 162; refine (sPlain_any _ _ h1 h2).mono ?_; rintro e w' ⟨rfl, rfl⟩) | (go_at_call 188; refine (sP_any _ _ (by omega) (by omega)).mono ?_; rintro e w' ⟨rfl, rfl⟩) | (go_at_call 189; refine (sQ_any _ _ (by omega) (by omega)).mono ?_; rintro e w' ⟨rfl, rfl⟩))
      go_ret
      exact ⟨ret_int (by rw [HN.out, if_neg (by omega), if_neg (by omega), if_pos (by omega), quM, if_neg (by omega)]), rfl⟩
  · have B := pq_bd
    by_cases hh : 324000 - (plM a - 972000) ≤ 162000
    · have bb := B (324000 - (plM a - 972000)) (by omega) (by omega)
      clear B
      go_wp2_with (first | (go_at_call 162; refine (sPlain_any _ _ h1 h2).mono ?_; rintro e w' ⟨rfl, rfl⟩) | (go_at_call 188; refine (sP_any _ _ (by omega) (by omega)).mono ?_; rintro e w' ⟨rfl, rfl⟩) | (go_at_call 189; refine (sQ_any _ _ (by omega) (by omega)).mono ?_; rintro e w' ⟨rfl, rfl⟩))
      go_ret
      exact ⟨ret_int (by rw [HN.out, if_neg (by omega), if_neg (by omega), if_neg (by omega), show 1296000 - plM a = 324000 - (plM a - 972000) from by omega, quM, if_pos (by omega)]), rfl⟩
    · have bb := B (324000 - (324000 - (plM a - 972000))) (by omega) (by omega)
      clear B
      go_wp2_with (first | (go_at_call 162; refine (sPlain_any _ _ h1 h2).mono ?_; rintro e w' ⟨rfl, rfl⟩) | (go_at_call 188; refine (sP_any _ _ (by omega) (by omega)).mono ?_; rintro e w' ⟨rfl, rfl⟩) | (go_at_call 189; refine (sQ_any _ _ (by omega) (by omega)).mono ?_; rintro e w' ⟨rfl, rfl⟩))
      go_ret
      exact ⟨ret_int (by rw [HN.out, if_neg (by omega), if_neg (by omega), if_neg (by omega), show 1296000 - plM a = 324000 - (plM a - 972000) from by omega, quM, if_neg (by omega)]), rfl⟩

set_option maxHeartbeats 400000 in
theorem sCosine_any (a : Int) (w : World) (h1 : -4611686018427000000 ≤ a) (h2 : a ≤ 4611686018427000000) :
    Calls Tryz.prog 165 #[.int .i64 a] w fun e w' => e = .returned (.int .i64 (nsM (a + 324000))) ∧ w = w' := by
  go_enter Tryz.func165, Tryz.ntmps165
  go_wp2_with (go_at_call 164; refine (sSine_any _ _ (by omega) (by omega)).mono ?_; rintro e w' ⟨rfl, rfl⟩)
  go_ret
  exact ⟨rfl, rfl⟩

set_option maxHeartbeats 400000 in
theorem sInterval_any (n : Int) (w : World) (h1 : -2000000000000 ≤ n) (h2 : n ≤ 2000000000000) :
    Calls Tryz.prog 163 #[.int .i64 n] w fun e w' => e = .returned (.agg #[.int .i64 ((n - 60) / 1000), .int .i64 (-((-(n + 60)) / 1000))]) ∧ Below w.heap.size w w' := by
  go_enter Tryz.func163, Tryz.ntmps163
  go_wp2_with (first | (go_at_call 100; refine (sFloor_pos _ _ _ (by omega) (by omega) (by omega) (by omega)).mono ?_; rintro e w' ⟨rfl, rfl⟩) | (go_at_call 145; refine (sCeil_pos _ _ _ (by omega) (by omega) (by omega) (by omega)).mono ?_; rintro e w' ⟨rfl, rfl⟩))
  exact bodyPost_ret (v := (.agg #[.int .i64 ((n - 60) / 1000), .int .i64 (-((-(n + 60)) / 1000))])) (by simp [results, Tryz.results163, go_sem]) rfl ⟨rfl, by (repeat' (first | with_reducible exact Below.refl _ _ | with_reducible assumption | with_reducible refine Below.setCell ?_ ?_ _ | with_reducible refine Below.drew ?_ | with_reducible refine below_drewN ?_ _ | with_reducible refine Below.alloc ?_ ?_ _ | with_reducible refine below_step (by assumption) ?_ ?_ | omega | exact Below.size (by assumption) | (simp; done) | (simp; omega)))⟩

set_option maxHeartbeats 400000 in
theorem sSin_any (a : Int) (w : World) (h1 : -4611686018427387904 ≤ a) (h2 : a ≤ 4611686018427387904) :
    Calls Tryz.prog 122 #[.int .i64 a] w fun e w' => e = .returned (.agg #[.int .i64 (sL a), .int .i64 (sH a)]) ∧ Below w.heap.size w w' := by
  have hn := nsM_bd a
  go_enter Tryz.func122, Tryz.ntmps122
  go_wp2_with (first | (go_at_call 164; refine (sSine_any _ _ h1 h2).mono ?_; rintro e w' ⟨rfl, rfl⟩) | (go_at_call 163; refine (sInterval_any _ _ (by omega) (by omega)).mono ?_; rintro e w1 ⟨rfl, b_w1⟩; obtain ⟨c_w1, f_w1, z_w1⟩ := bfacts b_w1 (by first | (simp; rfl) | rfl); have y0_w1 : w.heap.size < w1.heap.size := (by omega)))
  exact bodyPost_ret (v := (.agg #[.int .i64 (sL a), .int .i64 (sH a)])) (by simp [results, Tryz.results122, go_sem, sL, sH, *]) rfl ⟨rfl, by (repeat' (first | with_reducible exact Below.refl _ _ | with_reducible assumption | with_reducible refine Below.setCell ?_ ?_ _ | with_reducible refine Below.drew ?_ | with_reducible refine below_drewN ?_ _ | with_reducible refine Below.alloc ?_ ?_ _ | with_reducible refine below_step (by assumption) ?_ ?_ | omega | exact Below.size (by assumption) | (simp; done) | (simp; omega)))⟩

set_option maxHeartbeats 400000 in
theorem sCos_any (a : Int) (w : World) (h1 : -4611686018427000000 ≤ a) (h2 : a ≤ 4611686018427000000) :
    Calls Tryz.prog 124 #[.int .i64 a] w fun e w' => e = .returned (.agg #[.int .i64 (sL (a + 324000)), .int .i64 (sH (a + 324000))]) ∧ Below w.heap.size w w' := by
  have hn := nsM_bd (a + 324000)
  go_enter Tryz.func124, Tryz.ntmps124
  go_wp2_with (first | (go_at_call 165; refine (sCosine_any _ _ h1 h2).mono ?_; rintro e w' ⟨rfl, rfl⟩) | (go_at_call 163; refine (sInterval_any _ _ (by omega) (by omega)).mono ?_; rintro e w1 ⟨rfl, b_w1⟩; obtain ⟨c_w1, f_w1, z_w1⟩ := bfacts b_w1 (by first | (simp; rfl) | rfl); have y0_w1 : w.heap.size < w1.heap.size := (by omega)))
  exact bodyPost_ret (v := (.agg #[.int .i64 (sL (a + 324000)), .int .i64 (sH (a + 324000))])) (by simp [results, Tryz.results124, go_sem, sL, sH, *]) rfl ⟨rfl, by (repeat' (first | with_reducible exact Below.refl _ _ | with_reducible assumption | with_reducible refine Below.setCell ?_ ?_ _ | with_reducible refine Below.drew ?_ | with_reducible refine below_drewN ?_ _ | with_reducible refine Below.alloc ?_ ?_ _ | with_reducible refine below_step (by assumption) ?_ ?_ | omega | exact Below.size (by assumption) | (simp; done) | (simp; omega)))⟩

set_option maxHeartbeats 400000 in
theorem sLow_any (v : Int) (w : World) :
    Calls Tryz.prog 192 #[.int .i64 v] w fun e w' => e = .returned (.int .i64 (aLb v)) ∧ Below w.heap.size w w' := by
  go_enter Tryz.func192, Tryz.ntmps192
  go_wp2
  go_loopw [3, 4, 5] (fun a b _ wr => ∃ x y : Int, a = .int .i64 x ∧ b = .int .i64 y ∧ -324001 ≤ x ∧ x < y ∧ y ≤ 324001 ∧ bisM (fun m => decide (sH m < v)) x y = aLb v ∧ Below w.heap.size w wr) (fun a b _ _ => (intOf b - intOf a).toNat)
  case atStart => exact ⟨-324001, 324001, rfl, rfl, by omega, by omega, by omega, rfl, Below.refl _ _⟩
  case round =>
    obtain ⟨x, y, rfl, rfl, hx, hxy, hy, he, hb⟩ := hrel
    have HE := Lib.hid he; clear he
    by_cases ht : 1 < y - x
    · by_cases hp : decide ((fun m : Int => sH m < v) ((x + y) / 2)) = true
      · have hp1 : (fun m : Int => sH m < v) ((x + y) / 2) := by simpa using hp
        have HP := Lib.hid hp; clear hp
        go_wp2_with (first | (go_at_call 100; refine (sFloor_pos _ _ _ (by omega) (by omega) (by omega) (by omega)).mono ?_; rintro e w' ⟨rfl, rfl⟩) | (go_at_call 122; refine (sSin_any _ _ (by omega) (by omega)).mono ?_; rintro e w1 ⟨rfl, b_w1⟩; obtain ⟨c_w1, f_w1, z_w1⟩ := bfacts b_w1 (by first | (simp; rfl) | rfl)))
        go_roundw
        case rel => exact ⟨(x + y) / 2, y, rfl, rfl, by omega, by omega, hy, by rw [← bisM_yes ht HP.out]; exact HE.out, by (repeat' (first | with_reducible exact Below.refl _ _ | with_reducible assumption | with_reducible refine Below.setCell ?_ ?_ _ | with_reducible refine Below.drew ?_ | with_reducible refine below_drewN ?_ _ | with_reducible refine Below.alloc ?_ ?_ _ | with_reducible refine below_step (by assumption) ?_ ?_ | omega | exact Below.size (by assumption) | (simp; done) | (simp; omega)))⟩
        case measure => simp [intOf]; omega
      · have hp1 : ¬ (fun m : Int => sH m < v) ((x + y) / 2) := by simpa using hp
        have hp2 : decide ((fun m : Int => sH m < v) ((x + y) / 2)) = false := by simpa using hp
        have HP := Lib.hid hp2; clear hp2 hp
        go_wp2_with (first | (go_at_call 100; refine (sFloor_pos _ _ _ (by omega) (by omega) (by omega) (by omega)).mono ?_; rintro e w' ⟨rfl, rfl⟩) | (go_at_call 122; refine (sSin_any _ _ (by omega) (by omega)).mono ?_; rintro e w1 ⟨rfl, b_w1⟩; obtain ⟨c_w1, f_w1, z_w1⟩ := bfacts b_w1 (by first | (simp; rfl) | rfl)))
        go_roundw
        case rel => exact ⟨x, (x + y) / 2, rfl, rfl, hx, by omega, by omega, by rw [← bisM_no ht HP.out]; exact HE.out, by (repeat' (first | with_reducible exact Below.refl _ _ | with_reducible assumption | with_reducible refine Below.setCell ?_ ?_ _ | with_reducible refine Below.drew ?_ | with_reducible refine below_drewN ?_ _ | with_reducible refine Below.alloc ?_ ?_ _ | with_reducible refine below_step (by assumption) ?_ ?_ | omega | exact Below.size (by assumption) | (simp; done) | (simp; omega)))⟩
        case measure => simp [intOf]; omega
    · go_wp2
      go_ret
      exact ⟨ret_int (by rw [← HE.out, bisM_end (by omega)]), hb⟩

set_option maxHeartbeats 400000 in
theorem sHigh_any (v : Int) (w : World) :
    Calls Tryz.prog 193 #[.int .i64 v] w fun e w' => e = .returned (.int .i64 (aHb v)) ∧ Below w.heap.size w w' := by
  go_enter Tryz.func193, Tryz.ntmps193
  go_wp2
  go_loopw [3, 4, 5] (fun a b _ wr => ∃ x y : Int, a = .int .i64 x ∧ b = .int .i64 y ∧ -324001 ≤ x ∧ x < y ∧ y ≤ 324001 ∧ bisM (fun m => decide (sL m ≤ v)) x y = aHb v ∧ Below w.heap.size w wr) (fun a b _ _ => (intOf b - intOf a).toNat)
  case atStart => exact ⟨-324001, 324001, rfl, rfl, by omega, by omega, by omega, rfl, Below.refl _ _⟩
  case round =>
    obtain ⟨x, y, rfl, rfl, hx, hxy, hy, he, hb⟩ := hrel
    have HE := Lib.hid he; clear he
    by_cases ht : 1 < y - x
    · by_cases hp : decide ((fun m : Int => sL m ≤ v) ((x + y) / 2)) = true
      · have hp1 : (fun m : Int => sL m ≤ v) ((x + y) / 2) := by simpa using hp
        have HP := Lib.hid hp; clear hp
        go_wp2_with (first | (go_at_call 100; refine (sFloor_pos _ _ _ (by omega) (by omega) (by omega) (by omega)).mono ?_; rintro e w' ⟨rfl, rfl⟩) | (go_at_call 122; refine (sSin_any _ _ (by omega) (by omega)).mono ?_; rintro e w1 ⟨rfl, b_w1⟩; obtain ⟨c_w1, f_w1, z_w1⟩ := bfacts b_w1 (by first | (simp; rfl) | rfl)))
        go_roundw
        case rel => exact ⟨(x + y) / 2, y, rfl, rfl, by omega, by omega, hy, by rw [← bisM_yes ht HP.out]; exact HE.out, by (repeat' (first | with_reducible exact Below.refl _ _ | with_reducible assumption | with_reducible refine Below.setCell ?_ ?_ _ | with_reducible refine Below.drew ?_ | with_reducible refine below_drewN ?_ _ | with_reducible refine Below.alloc ?_ ?_ _ | with_reducible refine below_step (by assumption) ?_ ?_ | omega | exact Below.size (by assumption) | (simp; done) | (simp; omega)))⟩
        case measure => simp [intOf]; omega
      · have hp1 : ¬ (fun m : Int => sL m ≤ v) ((x + y) / 2) := by simpa using hp
        have hp2 : decide ((fun m : Int => sL m ≤ v) ((x + y) / 2)) = false := by simpa using hp
        have HP := Lib.hid hp2; clear hp2 hp
        go_wp2_with (first | (go_at_call 100; refine (sFloor_pos _ _ _ (by omega) (by omega) (by omega) (by omega)).mono ?_; rintro e w' ⟨rfl, rfl⟩) | (go_at_call 122; refine (sSin_any _ _ (by omega) (by omega)).mono ?_; rintro e w1 ⟨rfl, b_w1⟩; obtain ⟨c_w1, f_w1, z_w1⟩ := bfacts b_w1 (by first | (simp; rfl) | rfl)))
        go_roundw
        case rel => exact ⟨x, (x + y) / 2, rfl, rfl, hx, by omega, by omega, by rw [← bisM_no ht HP.out]; exact HE.out, by (repeat' (first | with_reducible exact Below.refl _ _ | with_reducible assumption | with_reducible refine Below.setCell ?_ ?_ _ | with_reducible refine Below.drew ?_ | with_reducible refine below_drewN ?_ _ | with_reducible refine Below.alloc ?_ ?_ _ | with_reducible refine below_step (by assumption) ?_ ?_ | omega | exact Below.size (by assumption) | (simp; done) | (simp; omega)))⟩
        case measure => simp [intOf]; omega
    · go_wp2
      go_ret
      exact ⟨ret_int (by rw [← HE.out, bisM_end (by omega)]), hb⟩

set_option maxHeartbeats 400000 in
theorem sKeep_any (a : Int) (w : World) :
    Calls Tryz.prog 191 #[.int .i64 a] w fun e w' => e = .returned (.int .i64 (keM a)) ∧ w = w' := by
  go_enter Tryz.func191, Tryz.ntmps191
  go_wp2
  all_goals go_ret
  all_goals exact ⟨ret_int (by first | rfl | (simp only [keM]; omega)), rfl⟩

set_option maxHeartbeats 400000 in
theorem sArc_any (v : Int) (w : World) :
    Calls Tryz.prog 168 #[.int .i64 v] w fun e w' => e = .returned (.agg #[.int .i64 (aL v), .int .i64 (aH v)]) ∧ Below w.heap.size w w' := by
  have hb := aHb_bd v
  go_enter Tryz.func168, Tryz.ntmps168
  go_wp2_with (first | (go_at_call 191; refine (sKeep_any _ _).mono ?_; rintro e w' ⟨rfl, rfl⟩) | (go_at_call 192; refine (sLow_any _ _).mono ?_; rintro e w1 ⟨rfl, b_w1⟩; obtain ⟨c_w1, f_w1, z_w1⟩ := bfacts b_w1 (by first | (simp; rfl) | rfl); have y0_w1 : w.heap.size < w1.heap.size := (by omega)) | (go_at_call 193; refine (sHigh_any _ _).mono ?_; rintro e w2 ⟨rfl, b_w2⟩; obtain ⟨c_w2, f_w2, z_w2⟩ := bfacts b_w2 (by first | (simp; rfl) | rfl); have y0_w2 : w.heap.size < w2.heap.size := (by omega)))
  exact bodyPost_ret (v := (.agg #[.int .i64 (aL v), .int .i64 (aH v)])) (by simp [results, Tryz.results168, go_sem, aL, aH, *]) rfl ⟨rfl, by (repeat' (first | with_reducible exact Below.refl _ _ | with_reducible assumption | with_reducible refine Below.setCell ?_ ?_ _ | with_reducible refine Below.drew ?_ | with_reducible refine below_drewN ?_ _ | with_reducible refine Below.alloc ?_ ?_ _ | with_reducible refine below_step (by assumption) ?_ ?_ | omega | exact Below.size (by assumption) | (simp; done) | (simp; omega)))⟩


end Go.Proofs.YteooegliepbcnaaGreat
