/- What the program's functions of chapters 1 to 5 return. -/
import Derived.Test.YteooegliepbcnaaGreatKit
namespace Go.Proofs.YteooegliepbcnaaGreat
set_option linter.unusedVariables false
set_option linter.unusedSimpArgs false
set_option maxRecDepth 10000
open Go.RowKit


set_option maxHeartbeats 400000 in
theorem in_any (n l h : Int) (w : World) :
    Calls Tryz.prog 61 #[.int .i64 n, .int .i64 l, .int .i64 h] w fun e w' => e = .returned (.bool (inB n l h)) ∧ w = w' := by
  go_enter Tryz.func61, Tryz.ntmps61
  by_cases h1 : l ≤ n
  · have hd : decide (l ≤ n) = true := by simpa using h1
    go_wp2
    all_goals go_ret
    all_goals exact ⟨ret_bool (by unfold inB; first | (simp_all; done) | (simp_all; omega)), rfl⟩
  · have hd : decide (l ≤ n) = false := by simpa using h1
    go_wp2
    all_goals go_ret
    all_goals exact ⟨ret_bool (by unfold inB; first | (simp_all; done) | (simp_all; omega)), rfl⟩

set_option maxHeartbeats 400000 in
theorem isValue_any (n : Int) (w : World) :
    Calls Tryz.prog 174 #[.int .i64 n] w fun e w' => e = .returned (.bool (inB n (-1000000000000) 1000000000000)) ∧ w = w' := by
  go_enter Tryz.func174, Tryz.ntmps174
  go_wp2_with (go_at_call 61; refine (in_any _ _ _ _).mono ?_; rintro e w' ⟨rfl, rfl⟩)
  go_ret
  exact ⟨rfl, rfl⟩

set_option maxHeartbeats 400000 in
theorem floor_pos (a b : Int) (w : World) (hb : 0 < b) (h1 : -4611686018427387904 ≤ a) (h2 : a ≤ 4611686018427387904) (h3 : b ≤ 4611686018427387904) :
    Calls Tryz.prog 103 #[.int .i64 a, .int .i64 b] w fun e w' => e = .returned (.int .i64 (a / b)) ∧ w = w' := by
  have f1 := (tdiv_abs a b hb).1
  have f2 := (tdiv_abs a b hb).2
  have f3 := tdiv_fix a b hb
  have g1 : -4611686018427387904 ≤ a.tdiv b ∧ a.tdiv b ≤ 4611686018427387904 := by omega
  obtain ⟨g1, g2⟩ := g1
  have hb' : decide (b < 0) = false := by simp; omega
  clear f1 f2
  have F := Lib.hid f3; clear f3
  go_enter Tryz.func103, Tryz.ntmps103
  by_cases h0 : a.tmod b = 0
  · have k1 : (a.tmod b != 0) = false := by simp [h0]
    have H0 := Lib.hid h0; clear h0
    go_wp2
    go_ret
    exact ⟨ret_int (by rw [F.out, if_neg (by have := H0.out; omega)]), rfl⟩
  · have k1 : (a.tmod b != 0) = true := by simp [h0]
    by_cases h : a.tmod b < 0
    · go_wp2
      go_ret
      exact ⟨ret_int (by rw [F.out, if_pos h]), rfl⟩
    · have k2 : decide (a.tmod b < 0) = false := by simp; omega
      go_wp2
      go_ret
      exact ⟨ret_int (by rw [F.out, if_neg (by omega)]), rfl⟩

set_option maxHeartbeats 400000 in
theorem ceil_pos (a b : Int) (w : World) (hb : 0 < b) (h1 : -4611686018427387904 ≤ a) (h2 : a ≤ 4611686018427387904) (h3 : b ≤ 4611686018427387904) :
    Calls Tryz.prog 149 #[.int .i64 a, .int .i64 b] w fun e w' => e = .returned (.int .i64 (-((-a) / b))) ∧ w = w' := by
  have := div_abs (a := -a) (A := 4611686018427387904) b hb (by omega) (by omega)
  go_enter Tryz.func149, Tryz.ntmps149
  go_wp2_with (go_at_call 103; refine (floor_pos _ _ _ hb (by omega) (by omega) h3).mono ?_; rintro e w' ⟨rfl, rfl⟩)
  go_ret
  exact ⟨rfl, rfl⟩

set_option maxHeartbeats 400000 in
theorem mod_pos (a b : Int) (w : World) (hb : 0 < b) (h1 : -4611686018427387904 ≤ a) (h2 : a ≤ 4611686018427387904) (h3 : b ≤ 4611686018427387904) :
    Calls Tryz.prog 180 #[.int .i64 a, .int .i64 b] w fun e w' => e = .returned (.int .i64 (a % b)) ∧ w = w' := by
  have e := Int.mul_ediv_add_emod a b
  rw [Int.mul_comm] at e
  have k1 := Int.emod_nonneg a (show b ≠ 0 by omega)
  have k2 := Int.emod_lt_of_pos a hb
  have e1 : -9223372036854775808 ≤ a / b * b ∧ a / b * b ≤ 9223372036854775807 := by omega
  have e2 : 0 ≤ a - a / b * b ∧ a - a / b * b < b := by omega
  have E := Lib.hid e; clear e
  go_enter Tryz.func180, Tryz.ntmps180
  go_wp2_with (go_at_call 103; refine (floor_pos _ _ _ hb (by omega) (by omega) h3).mono ?_; rintro e w' ⟨rfl, rfl⟩)
  go_ret
  exact ⟨ret_int (by have := E.out; omega), rfl⟩

set_option maxHeartbeats 400000 in
theorem plain_any (a : Int) (w : World) (h1 : -4611686018427387904 ≤ a) (h2 : a ≤ 4611686018427387904) :
    Calls Tryz.prog 150 #[.int .i64 a] w fun e w' => e = .returned (.int .i64 (plM a)) ∧ w = w' := by
  go_enter Tryz.func150, Tryz.ntmps150
  go_wp2_with (go_at_call 180; refine (mod_pos _ _ _ (by omega) h1 h2 (by omega)).mono ?_; rintro e w' ⟨rfl, rfl⟩)
  go_ret
  exact ⟨rfl, rfl⟩

set_option maxHeartbeats 2000000 in
theorem poly_any (r : Int) (w : World) (h1 : 0 ≤ r) (h2 : r ≤ 162000) :
    Calls Tryz.prog 179 #[.int .i64 r] w fun e w' => e = .returned (.tuple #[.int .i64 (pM r), .int .i64 (qM r)]) ∧ w = w' := by
  obtain ⟨a0, a1, x0, x1⟩ := x_bd r h1 h2
  obtain ⟨a2, a3⟩ := mul_bd x0 x1 x0 x1 rfl
  obtain ⟨y0, y1⟩ := div_bd 1000000000 (by omega) a2 a3 rfl
  obtain ⟨a4, a5⟩ := mul_bd x0 x1 y0 y1 rfl
  obtain ⟨a6, a7⟩ := div_bd 1000000000 (by omega) a4 a5 rfl
  obtain ⟨t30, t31⟩ := div_bd 6 (by omega) a6 a7 rfl
  obtain ⟨a8, a9⟩ := mul_bd t30 t31 y0 y1 rfl
  obtain ⟨a10, a11⟩ := div_bd 1000000000 (by omega) a8 a9 rfl
  obtain ⟨t50, t51⟩ := div_bd 20 (by omega) a10 a11 rfl
  obtain ⟨a12, a13⟩ := mul_bd t50 t51 y0 y1 rfl
  obtain ⟨a14, a15⟩ := div_bd 1000000000 (by omega) a12 a13 rfl
  obtain ⟨t70, t71⟩ := div_bd 42 (by omega) a14 a15 rfl
  obtain ⟨a16, a17⟩ := mul_bd t70 t71 y0 y1 rfl
  obtain ⟨a18, a19⟩ := div_bd 1000000000 (by omega) a16 a17 rfl
  obtain ⟨t90, t91⟩ := div_bd 72 (by omega) a18 a19 rfl
  obtain ⟨c20, c21⟩ := div_bd 2 (by omega) y0 y1 rfl
  obtain ⟨d0, d1⟩ := mul_bd c20 c21 y0 y1 rfl
  obtain ⟨d2, d3⟩ := div_bd 1000000000 (by omega) d0 d1 rfl
  obtain ⟨c40, c41⟩ := div_bd 12 (by omega) d2 d3 rfl
  obtain ⟨d4, d5⟩ := mul_bd c40 c41 y0 y1 rfl
  obtain ⟨d6, d7⟩ := div_bd 1000000000 (by omega) d4 d5 rfl
  obtain ⟨c60, c61⟩ := div_bd 30 (by omega) d6 d7 rfl
  obtain ⟨d8, d9⟩ := mul_bd c60 c61 y0 y1 rfl
  obtain ⟨d10, d11⟩ := div_bd 1000000000 (by omega) d8 d9 rfl
  obtain ⟨c80, c81⟩ := div_bd 56 (by omega) d10 d11 rfl
  obtain ⟨d12, d13⟩ := mul_bd c80 c81 y0 y1 rfl
  obtain ⟨d14, d15⟩ := div_bd 1000000000 (by omega) d12 d13 rfl
  obtain ⟨c100, c101⟩ := div_bd 90 (by omega) d14 d15 rfl
  go_enter Tryz.func179, Tryz.ntmps179
  go_wp2
  go_ret2
  exact ⟨rfl, rfl⟩

set_option maxHeartbeats 1000000 in
theorem nanoSine_any (a : Int) (w : World) (h1 : -4611686018427387904 ≤ a) (h2 : a ≤ 4611686018427387904) :
    Calls Tryz.prog 148 #[.int .i64 a] w fun e w' => e = .returned (.int .i64 (nsM a)) ∧ w = w' := by
  obtain ⟨p0, p1⟩ := plM_bd a
  have hN : nsM a = if plM a < 324000 then quM (plM a) else if plM a < 648000 then quM (648000 - plM a) else if plM a < 972000 then -quM (plM a - 648000) else -quM (1296000 - plM a) := rfl
  have HN := Lib.hid hN; clear hN
  go_enter Tryz.func148, Tryz.ntmps148
  rcases (by omega : plM a / 324000 = 0 ∧ plM a % 324000 = plM a ∨ plM a / 324000 = 1 ∧ plM a % 324000 = plM a - 324000 ∨ plM a / 324000 = 2 ∧ plM a % 324000 = plM a - 648000 ∨ plM a / 324000 = 3 ∧ plM a % 324000 = plM a - 972000) with ⟨hq, hr⟩ | ⟨hq, hr⟩ | ⟨hq, hr⟩ | ⟨hq, hr⟩
  · have B := pq_bd
    by_cases hh : plM a ≤ 162000
    · have bb := B (plM a) (by omega) (by omega)
      clear B
      go_wp2_with (first | (go_at_call 150; refine (plain_any _ _ h1 h2).mono ?_; rintro e w' ⟨rfl, rfl⟩) | (go_at_call 179; refine (poly_any _ _ (by omega) (by omega)).mono ?_; rintro e w' ⟨rfl, rfl⟩))
      go_ret
      exact ⟨ret_int (by rw [HN.out, if_pos (by omega), quM, if_pos (by omega)]), rfl⟩
    · have bb := B (324000 - (plM a)) (by omega) (by omega)
      clear B
      go_wp2_with (first | (go_at_call 150; refine (plain_any _ _ h1 h2).mono ?_; rintro e w' ⟨rfl, rfl⟩) | (go_at_call 179; refine (poly_any _ _ (by omega) (by omega)).mono ?_; rintro e w' ⟨rfl, rfl⟩))
      go_ret
      exact ⟨ret_int (by rw [HN.out, if_pos (by omega), quM, if_neg (by omega)]), rfl⟩
  · have B := pq_bd
    by_cases hh : 324000 - (plM a - 324000) ≤ 162000
    · have bb := B (324000 - (plM a - 324000)) (by omega) (by omega)
      clear B
      go_wp2_with (first | (go_at_call 150; refine (plain_any _ _ h1 h2).mono ?_; rintro e w' ⟨rfl, rfl⟩) | (go_at_call 179; refine (poly_any _ _ (by omega) (by omega)).mono ?_; rintro e w' ⟨rfl, rfl⟩))
      go_ret
      exact ⟨ret_int (by rw [HN.out, if_neg (by omega), if_pos (by omega), show 648000 - plM a = 324000 - (plM a - 324000) from by omega, quM, if_pos (by omega)]), rfl⟩
    · have bb := B (324000 - (324000 - (plM a - 324000))) (by omega) (by omega)
      clear B
      go_wp2_with (first | (go_at_call 150; refine (plain_any _ _ h1 h2).mono ?_; rintro e w' ⟨rfl, rfl⟩) | (go_at_call 179; refine (poly_any _ _ (by omega) (by omega)).mono ?_; rintro e w' ⟨rfl, rfl⟩))
      go_ret
      exact ⟨ret_int (by rw [HN.out, if_neg (by omega), if_pos (by omega), show 648000 - plM a = 324000 - (plM a - 324000) from by omega, quM, if_neg (by omega)]), rfl⟩
  · have B := pq_bd
    by_cases hh : plM a - 648000 ≤ 162000
    · have bb := B (plM a - 648000) (by omega) (by omega)
      clear B
      go_wp2_with (first | (go_at_call 150; refine (plain_any _ _ h1 h2).mono ?_; rintro e w' ⟨rfl, rfl⟩) | (go_at_call 179; refine (poly_any _ _ (by omega) (by omega)).mono ?_; rintro e w' ⟨rfl, rfl⟩))
      go_ret
      exact ⟨ret_int (by rw [HN.out, if_neg (by omega), if_neg (by omega), if_pos (by omega), quM, if_pos (by omega)]), rfl⟩
    · have bb := B (324000 - (plM a - 648000)) (by omega) (by omega)
      clear B
      go_wp2_with (first | (go_at_call 150; refine (plain_any _ _ h1 h2).mono ?_; rintro e w' ⟨rfl, rfl⟩) | (go_at_call 179; refine (poly_any _ _ (by omega) (by omega)).mono ?_; rintro e w' ⟨rfl, rfl⟩))
      go_ret
      exact ⟨ret_int (by rw [HN.out, if_neg (by omega), if_neg (by omega), if_pos (by omega), quM, if_neg (by omega)]), rfl⟩
  · have B := pq_bd
    by_cases hh : 324000 - (plM a - 972000) ≤ 162000
    · have bb := B (324000 - (plM a - 972000)) (by omega) (by omega)
      clear B
      go_wp2_with (first | (go_at_call 150; refine (plain_any _ _ h1 h2).mono ?_; rintro e w' ⟨rfl, rfl⟩) | (go_at_call 179; refine (poly_any _ _ (by omega) (by omega)).mono ?_; rintro e w' ⟨rfl, rfl⟩))
      go_ret
      exact ⟨ret_int (by rw [HN.out, if_neg (by omega), if_neg (by omega), if_neg (by omega), show 1296000 - plM a = 324000 - (plM a - 972000) from by omega, quM, if_pos (by omega)]), rfl⟩
    · have bb := B (324000 - (324000 - (plM a - 972000))) (by omega) (by omega)
      clear B
      go_wp2_with (first | (go_at_call 150; refine (plain_any _ _ h1 h2).mono ?_; rintro e w' ⟨rfl, rfl⟩) | (go_at_call 179; refine (poly_any _ _ (by omega) (by omega)).mono ?_; rintro e w' ⟨rfl, rfl⟩))
      go_ret
      exact ⟨ret_int (by rw [HN.out, if_neg (by omega), if_neg (by omega), if_neg (by omega), show 1296000 - plM a = 324000 - (plM a - 972000) from by omega, quM, if_neg (by omega)]), rfl⟩


set_option maxHeartbeats 400000 in
theorem sine_any (a : Int) (w : World) (h1 : -4611686018427387904 ≤ a) (h2 : a ≤ 4611686018427387904) :
    Calls Tryz.prog 109 #[.int .i64 a] w fun e w' => e = .returned (.agg #[.int .i64 (sL a), .int .i64 (sH a)]) ∧ Below w.heap.size w w' := by
  have hn := nsM_bd a
  go_enter Tryz.func109, Tryz.ntmps109
  go_wp2_with (first | (go_at_call 148; refine (nanoSine_any _ _ h1 h2).mono ?_; rintro e w' ⟨rfl, rfl⟩) | (go_at_call 103; refine (floor_pos _ _ _ (by omega) (by omega) (by omega) (by omega)).mono ?_; rintro e w' ⟨rfl, rfl⟩) | (go_at_call 149; refine (ceil_pos _ _ _ (by omega) (by omega) (by omega) (by omega)).mono ?_; rintro e w' ⟨rfl, rfl⟩))
  refine bodyPost_ret (v := (.agg #[.int .i64 (sL a), .int .i64 (sH a)])) (by simp [results, Tryz.results109, go_sem, sL, sH]) rfl ⟨rfl, ?_⟩
  (repeat' (first | with_reducible exact Below.refl _ _ | with_reducible assumption | with_reducible refine Below.setCell ?_ ?_ _ | with_reducible refine Below.drew ?_ | with_reducible refine below_drewN ?_ _ | with_reducible refine Below.alloc ?_ ?_ _ | with_reducible refine below_step (by assumption) ?_ ?_ | omega | exact Below.size (by assumption) | (simp; done) | (simp; omega)))

set_option maxHeartbeats 400000 in
theorem arcSine1_any (m v : Int) (g : Nat) (w : World) (hg : w.cell? ⟨g, 0, none⟩ = some (.int .i64 v)) (hl : g < w.heap.size) (h1 : -4611686018427387904 ≤ m) (h2 : m ≤ 4611686018427387904) :
    Calls Tryz.prog 176 #[.int .i64 m, .pointer (some ⟨g, 0, none⟩)] w fun e w' => e = .returned (.bool (decide (sH m < v))) ∧ Below w.heap.size w w' := by
  go_enter Tryz.func176, Tryz.ntmps176
  go_wp2
  go_region_held3 (fun w' => w'.cell? ⟨g, 0, none⟩ = some (.int .i64 v)) (first | go_keep | (rw [c_w1 _ _ (by first | exact hl | omega)]; go_keep)) ((go_at_call 109; refine (sine_any _ _ h1 h2).mono ?_; rintro e w1 ⟨rfl, b_w1⟩; obtain ⟨c_w1, f_w1⟩ := bcell b_w1))
  go_wp2
  go_ret
  exact ⟨rfl, by (repeat' (first | with_reducible exact Below.refl _ _ | with_reducible assumption | with_reducible refine Below.setCell ?_ ?_ _ | with_reducible refine Below.drew ?_ | with_reducible refine below_drewN ?_ _ | with_reducible refine Below.alloc ?_ ?_ _ | with_reducible refine below_step (by assumption) ?_ ?_ | omega | exact Below.size (by assumption) | (simp; done) | (simp; omega)))⟩

set_option maxHeartbeats 400000 in
theorem arcSine2_any (m v : Int) (g : Nat) (w : World) (hg : w.cell? ⟨g, 0, none⟩ = some (.int .i64 v)) (hl : g < w.heap.size) (h1 : -4611686018427387904 ≤ m) (h2 : m ≤ 4611686018427387904) :
    Calls Tryz.prog 177 #[.int .i64 m, .pointer (some ⟨g, 0, none⟩)] w fun e w' => e = .returned (.bool (decide (sL m ≤ v))) ∧ Below w.heap.size w w' := by
  go_enter Tryz.func177, Tryz.ntmps177
  go_wp2
  go_region_held3 (fun w' => w'.cell? ⟨g, 0, none⟩ = some (.int .i64 v)) (first | go_keep | (rw [c_w1 _ _ (by first | exact hl | omega)]; go_keep)) ((go_at_call 109; refine (sine_any _ _ h1 h2).mono ?_; rintro e w1 ⟨rfl, b_w1⟩; obtain ⟨c_w1, f_w1⟩ := bcell b_w1))
  go_wp2
  go_ret
  exact ⟨rfl, by (repeat' (first | with_reducible exact Below.refl _ _ | with_reducible assumption | with_reducible refine Below.setCell ?_ ?_ _ | with_reducible refine Below.drew ?_ | with_reducible refine below_drewN ?_ _ | with_reducible refine Below.alloc ?_ ?_ _ | with_reducible refine below_step (by assumption) ?_ ?_ | omega | exact Below.size (by assumption) | (simp; done) | (simp; omega)))⟩

set_option maxHeartbeats 400000 in
theorem halve_arc1 (lo hi : Int) (cap : Value) (P : Int → Bool) (w : World)
    (hc : ∀ (m : Int) (W : World), lo ≤ m → m ≤ hi → Below w.heap.size w W → Calls Tryz.prog 176 #[.int .i64 m, cap] W fun e w' => e = .returned (.bool (P m)) ∧ Below W.heap.size W w')
    (h0 : lo < hi) (h1 : -1000000000000 ≤ lo) (h2 : hi ≤ 1000000000000) :
    Calls Tryz.prog 175 #[.int .i64 lo, .int .i64 hi, .func (.func 176) #[] #[cap]] w fun e w' => e = .returned (.int .i64 (bisM P lo hi)) ∧ Below w.heap.size w w' := by
  have HC := Lib.hid hc; clear hc
  go_enter Tryz.func175, Tryz.ntmps175
  go_wp2
  go_loopw [0, 1, 7] (fun a b _ wr => ∃ x y : Int, a = .int .i64 x ∧ b = .int .i64 y ∧ lo ≤ x ∧ x < y ∧ y ≤ hi ∧ bisM P x y = bisM P lo hi ∧ Below w.heap.size w wr) (fun a b _ _ => (intOf b - intOf a).toNat)
  case atStart => exact ⟨lo, hi, rfl, rfl, by omega, h0, by omega, rfl, Below.refl _ _⟩
  case round =>
    obtain ⟨x, y, rfl, rfl, hx, hxy, hy, he, hb⟩ := hrel
    have HE := Lib.hid he; clear he
    by_cases ht : 1 < y - x
    · go_wp2_with (go_at_call 103; refine (floor_pos _ _ _ (by omega) (by omega) (by omega) (by omega)).mono ?_; rintro e w' ⟨rfl, rfl⟩)
      refine (HC.out ((x + y) / 2) wr (by omega) (by omega) hb).mono ?_
      rintro e w2 ⟨rfl, b_w2⟩
      have hb2 := below_step b_w2 hb hb.size
      cases hp : P ((x + y) / 2)
      · have HP := Lib.hid hp; clear hp
        go_wp2
        go_roundw
        case rel => exact ⟨x, (x + y) / 2, rfl, rfl, hx, by omega, by omega, by rw [← bisM_no ht HP.out]; exact HE.out, hb2⟩
        case measure => simp [intOf]; omega
      · have HP := Lib.hid hp; clear hp
        go_wp2
        go_roundw
        case rel => exact ⟨(x + y) / 2, y, rfl, rfl, by omega, by omega, hy, by rw [← bisM_yes ht HP.out]; exact HE.out, hb2⟩
        case measure => simp [intOf]; omega
    · go_wp2
      go_ret
      exact ⟨ret_int (by rw [← HE.out, bisM_end (by omega)]), hb⟩

set_option maxHeartbeats 400000 in
theorem halve_arc2 (lo hi : Int) (cap : Value) (P : Int → Bool) (w : World)
    (hc : ∀ (m : Int) (W : World), lo ≤ m → m ≤ hi → Below w.heap.size w W → Calls Tryz.prog 177 #[.int .i64 m, cap] W fun e w' => e = .returned (.bool (P m)) ∧ Below W.heap.size W w')
    (h0 : lo < hi) (h1 : -1000000000000 ≤ lo) (h2 : hi ≤ 1000000000000) :
    Calls Tryz.prog 175 #[.int .i64 lo, .int .i64 hi, .func (.func 177) #[] #[cap]] w fun e w' => e = .returned (.int .i64 (bisM P lo hi)) ∧ Below w.heap.size w w' := by
  have HC := Lib.hid hc; clear hc
  go_enter Tryz.func175, Tryz.ntmps175
  go_wp2
  go_loopw [0, 1, 7] (fun a b _ wr => ∃ x y : Int, a = .int .i64 x ∧ b = .int .i64 y ∧ lo ≤ x ∧ x < y ∧ y ≤ hi ∧ bisM P x y = bisM P lo hi ∧ Below w.heap.size w wr) (fun a b _ _ => (intOf b - intOf a).toNat)
  case atStart => exact ⟨lo, hi, rfl, rfl, by omega, h0, by omega, rfl, Below.refl _ _⟩
  case round =>
    obtain ⟨x, y, rfl, rfl, hx, hxy, hy, he, hb⟩ := hrel
    have HE := Lib.hid he; clear he
    by_cases ht : 1 < y - x
    · go_wp2_with (go_at_call 103; refine (floor_pos _ _ _ (by omega) (by omega) (by omega) (by omega)).mono ?_; rintro e w' ⟨rfl, rfl⟩)
      refine (HC.out ((x + y) / 2) wr (by omega) (by omega) hb).mono ?_
      rintro e w2 ⟨rfl, b_w2⟩
      have hb2 := below_step b_w2 hb hb.size
      cases hp : P ((x + y) / 2)
      · have HP := Lib.hid hp; clear hp
        go_wp2
        go_roundw
        case rel => exact ⟨x, (x + y) / 2, rfl, rfl, hx, by omega, by omega, by rw [← bisM_no ht HP.out]; exact HE.out, hb2⟩
        case measure => simp [intOf]; omega
      · have HP := Lib.hid hp; clear hp
        go_wp2
        go_roundw
        case rel => exact ⟨(x + y) / 2, y, rfl, rfl, by omega, by omega, hy, by rw [← bisM_yes ht HP.out]; exact HE.out, hb2⟩
        case measure => simp [intOf]; omega
    · go_wp2
      go_ret
      exact ⟨ret_int (by rw [← HE.out, bisM_end (by omega)]), hb⟩


end Go.Proofs.YteooegliepbcnaaGreat
