/- What the reference's functions on quotients, places and shadows return. -/
import Derived.Test.YteooegliepbcnaaGreatDir
import Derived.Test.YteooegliepbcnaaGreatF
import Derived.Test.YteooegliepbcnaaGreatMath4
import Derived.Test.YteooegliepbcnaaGreatApp
namespace Go.Proofs.YteooegliepbcnaaGreat
set_option linter.unusedVariables false
set_option linter.unusedSimpArgs false
set_option maxRecDepth 10000
open Go.RowKit


set_option maxHeartbeats 8000000 in
theorem sDiv_walk (a b c d : Int) (w : World) (a0 : -20000000 ≤ a) (a1 : a ≤ 20000000) (b0 : -20000000 ≤ b) (b1 : b ≤ 20000000) (c0 : 0 < c) (cd : c ≤ d) (d1 : d ≤ 20000000) (lo hi : Int)
    (e0 : mn4 (a * 1000000 / c) (a * 1000000 / d) (b * 1000000 / c) (b * 1000000 / d) = lo)
    (e1 : mx4 (-(-(a * 1000000) / c)) (-(-(a * 1000000) / d)) (-(-(b * 1000000) / c)) (-(-(b * 1000000) / d)) = hi) :
    Calls Tryz.prog 173 #[(.agg #[.int .i64 (a), .int .i64 (b)]), (.agg #[.int .i64 (c), .int .i64 (d)])] w fun e w' => e = .returned (.agg #[.int .i64 (lo), .int .i64 (hi)]) ∧ Below w.heap.size w w' := by
  have dpos : 0 < d := by omega
  have f1 : IntKind.i64.wrap (a * 1000000) = a * 1000000 := IntWalk.i64_in _ (by omega)
  have f2 : IntKind.i64.wrap (b * 1000000) = b * 1000000 := IntWalk.i64_in _ (by omega)
  go_enter Tryz.func173, Tryz.ntmps173
  go_wp2_with fail
  refine wp_region_bl2 25 (fun w' => w'.cell? ⟨w.heap.size, 0, none⟩ = some (.int .i64 (a)) ∧ w'.cell? ⟨w.heap.size, 1, none⟩ = some (.int .i64 (b)) ∧ w'.cell? ⟨w.heap.size + 1, 0, none⟩ = some (.int .i64 (c)) ∧ w'.cell? ⟨w.heap.size + 1, 1, none⟩ = some (.int .i64 (d))) (by kernel_rfl) (by kernel_rfl) (by rfl) (fun w' hw' => ?_) (fun hS => ?_)
  focus exact ⟨(hw'.cell (p := ⟨w.heap.size, 0, none⟩) (by first | omega | (simp; done) | (simp; omega))).trans (by go_simp), (hw'.cell (p := ⟨w.heap.size, 1, none⟩) (by first | omega | (simp; done) | (simp; omega))).trans (by go_simp), (hw'.cell (p := ⟨w.heap.size + 1, 0, none⟩) (by first | omega | (simp; done) | (simp; omega))).trans (by go_simp), (hw'.cell (p := ⟨w.heap.size + 1, 1, none⟩) (by first | omega | (simp; done) | (simp; omega))).trans (by go_simp)⟩
  have HS := Lib.hid hS; clear hS
  simp only [List.take_succ_cons, List.take_zero, List.drop_succ_cons, List.drop_zero]
  repeat (first | (refine wpBl_op ?_ ?_ (fun K hK => ?_); (focus rfl); (focus rfl); apply Exists.intro; refine ⟨fun w' hw' => ?_, ?_⟩; (focus (first | (go_simp; first | (go_at_call 100; exact calls_below (sFloor_pos _ _ _ (by omega) (by omega) (by omega) (by omega)))) | (obtain ⟨kr0, kr1, kr2, kr3⟩ := HS.out w' hw'; go_simp; rfl))); go_simp; refine hK _ ?_; clear hK K) | (refine wpBl_mk ?_ ?_ (fun K hK => ⟨fun g => .pointer (some ⟨g, 0, none⟩), ?_⟩); (focus rfl); (focus rfl); apply Exists.intro; refine ⟨fun w' => ?_, ?_⟩; (focus (go_simp; rfl)); go_simp; refine hK _ _ _ ?_; clear hK K) | (refine wpBl_no ?_ ?_ (fun K hK => ?_); (focus rfl); (focus rfl); go_simp; refine hK _ ?_; clear hK K))
  refine wpBl_end (fun w1 b_w1 => TailW_nil ?_)
  obtain ⟨c_w1, f_w1, z_w1⟩ := bfacts b_w1 (by first | (simp; rfl) | rfl)
  have y0_w1 : w.heap.size < w1.heap.size := (by omega)
  have y1_w1 : w.heap.size + 1 < w1.heap.size := (by omega)
  have y2_w1 : w.heap.size + 1 + 1 < w1.heap.size := (by omega)
  have k0_0_w1 : w1.cell? ⟨w.heap.size, 0, none⟩ = some (.int .i64 (a)) := (by first | exact (c_w1 _ _ (by omega)).trans (by go_simp) | go_simp)
  have l0_0_w1 : w1.frozen? ⟨w.heap.size, 0, none⟩ = false := (by first | exact (f_w1 _ _ (by omega)).trans (by go_simp) | go_simp)
  have k0_1_w1 : w1.cell? ⟨w.heap.size, 1, none⟩ = some (.int .i64 (b)) := (by first | exact (c_w1 _ _ (by omega)).trans (by go_simp) | go_simp)
  have l0_1_w1 : w1.frozen? ⟨w.heap.size, 1, none⟩ = false := (by first | exact (f_w1 _ _ (by omega)).trans (by go_simp) | go_simp)
  have k1_0_w1 : w1.cell? ⟨w.heap.size + 1, 0, none⟩ = some (.int .i64 (c)) := (by first | exact (c_w1 _ _ (by omega)).trans (by go_simp) | go_simp)
  have l1_0_w1 : w1.frozen? ⟨w.heap.size + 1, 0, none⟩ = false := (by first | exact (f_w1 _ _ (by omega)).trans (by go_simp) | go_simp)
  have k1_1_w1 : w1.cell? ⟨w.heap.size + 1, 1, none⟩ = some (.int .i64 (d)) := (by first | exact (c_w1 _ _ (by omega)).trans (by go_simp) | go_simp)
  have l1_1_w1 : w1.frozen? ⟨w.heap.size + 1, 1, none⟩ = false := (by first | exact (f_w1 _ _ (by omega)).trans (by go_simp) | go_simp)
  have k2_0_w1 : w1.cell? ⟨w.heap.size + 1 + 1, 0, none⟩ = some (.int .i64 (0)) := (by first | exact (c_w1 _ _ (by omega)).trans (by go_simp) | go_simp)
  have l2_0_w1 : w1.frozen? ⟨w.heap.size + 1 + 1, 0, none⟩ = false := (by first | exact (f_w1 _ _ (by omega)).trans (by go_simp) | go_simp)
  have k2_1_w1 : w1.cell? ⟨w.heap.size + 1 + 1, 1, none⟩ = some (.int .i64 (0)) := (by first | exact (c_w1 _ _ (by omega)).trans (by go_simp) | go_simp)
  have l2_1_w1 : w1.frozen? ⟨w.heap.size + 1 + 1, 1, none⟩ = false := (by first | exact (f_w1 _ _ (by omega)).trans (by go_simp) | go_simp)
  clear c_w1 f_w1
  clear HS
  go_simp
  go_wp2_with fail
  refine wp_region_bl2 25 (fun w' => w'.cell? ⟨w.heap.size, 0, none⟩ = some (.int .i64 (a)) ∧ w'.cell? ⟨w.heap.size, 1, none⟩ = some (.int .i64 (b)) ∧ w'.cell? ⟨w.heap.size + 1, 0, none⟩ = some (.int .i64 (c)) ∧ w'.cell? ⟨w.heap.size + 1, 1, none⟩ = some (.int .i64 (d))) (by kernel_rfl) (by kernel_rfl) (by rfl) (fun w' hw' => ?_) (fun hS => ?_)
  focus exact ⟨(hw'.cell (p := ⟨w.heap.size, 0, none⟩) (by first | omega | (simp; done) | (simp; omega))).trans (by go_simp), (hw'.cell (p := ⟨w.heap.size, 1, none⟩) (by first | omega | (simp; done) | (simp; omega))).trans (by go_simp), (hw'.cell (p := ⟨w.heap.size + 1, 0, none⟩) (by first | omega | (simp; done) | (simp; omega))).trans (by go_simp), (hw'.cell (p := ⟨w.heap.size + 1, 1, none⟩) (by first | omega | (simp; done) | (simp; omega))).trans (by go_simp)⟩
  have HS := Lib.hid hS; clear hS
  simp only [List.take_succ_cons, List.take_zero, List.drop_succ_cons, List.drop_zero]
  repeat (first | (refine wpBl_op ?_ ?_ (fun K hK => ?_); (focus rfl); (focus rfl); apply Exists.intro; refine ⟨fun w' hw' => ?_, ?_⟩; (focus (first | (go_simp; first | (go_at_call 145; exact calls_below (sCeil_pos _ _ _ (by omega) (by omega) (by omega) (by omega)))) | (obtain ⟨kr0, kr1, kr2, kr3⟩ := HS.out w' hw'; go_simp; rfl))); go_simp; refine hK _ ?_; clear hK K) | (refine wpBl_mk ?_ ?_ (fun K hK => ⟨fun g => .pointer (some ⟨g, 0, none⟩), ?_⟩); (focus rfl); (focus rfl); apply Exists.intro; refine ⟨fun w' => ?_, ?_⟩; (focus (go_simp; rfl)); go_simp; refine hK _ _ _ ?_; clear hK K) | (refine wpBl_no ?_ ?_ (fun K hK => ?_); (focus rfl); (focus rfl); go_simp; refine hK _ ?_; clear hK K))
  refine wpBl_end (fun w2 b_w2 => TailW_nil ?_)
  obtain ⟨c_w2, f_w2, z_w2⟩ := bfacts b_w2 (by first | (simp; rfl) | rfl)
  have y0_w2 : w.heap.size + 1 + 1 < w2.heap.size := (by omega)
  have yb0_w2 : w.heap.size + 1 < w2.heap.size := (by omega)
  have yb1_w2 : w.heap.size < w2.heap.size := (by omega)
  have k0_0_w2 : w2.cell? ⟨w.heap.size + 1 + 1, 0, none⟩ = some (.int .i64 (0)) := (by first | exact (c_w2 _ _ (by omega)).trans (by go_simp) | go_simp)
  have l0_0_w2 : w2.frozen? ⟨w.heap.size + 1 + 1, 0, none⟩ = false := (by first | exact (f_w2 _ _ (by omega)).trans (by go_simp) | go_simp)
  have k0_1_w2 : w2.cell? ⟨w.heap.size + 1 + 1, 1, none⟩ = some (.int .i64 (0)) := (by first | exact (c_w2 _ _ (by omega)).trans (by go_simp) | go_simp)
  have l0_1_w2 : w2.frozen? ⟨w.heap.size + 1 + 1, 1, none⟩ = false := (by first | exact (f_w2 _ _ (by omega)).trans (by go_simp) | go_simp)
  clear c_w2 f_w2
  clear HS
  go_simp
  go_wp2
  exact bodyPost_ret (v := (.agg #[.int .i64 (lo), .int .i64 (hi)])) (by simp [results, Tryz.results173, go_sem, *]) rfl ⟨rfl, by (repeat' (first | with_reducible exact Below.refl _ _ | with_reducible refine Below.setCell ?_ ?_ _ | with_reducible refine Below.drew ?_ | with_reducible refine below_drewN ?_ _ | with_reducible refine Below.alloc ?_ ?_ _ | with_reducible refine below_step b_w2 ?_ ?_ | with_reducible refine below_step b_w1 ?_ ?_ | omega | (simp; done) | (simp; omega)))⟩
theorem sDiv_any (a b : Iv) (w : World) (a0 : -20000000 ≤ a.lo) (ab : a.lo ≤ a.hi) (a1 : a.hi ≤ 20000000) (c0 : 0 < b.lo) (cd : b.lo ≤ b.hi) (d1 : b.hi ≤ 20000000) :
    Calls Tryz.prog 173 #[(.agg #[.int .i64 (a.lo), .int .i64 (a.hi)]), (.agg #[.int .i64 (b.lo), .int .i64 (b.hi)])] w fun e w' => e = .returned (.agg #[.int .i64 ((diI a b).lo), .int .i64 ((diI a b).hi)]) ∧ Below w.heap.size w w' :=
  sDiv_walk a.lo a.hi b.lo b.hi w a0 (by omega) (by omega) a1 c0 cd d1 (diI a b).lo (diI a b).hi rfl rfl

set_option maxHeartbeats 4000000 in
theorem sFar_any (h : Int) (a b : Iv) (w : World) (h0 : 1 ≤ h) (h1 : h ≤ 10000) (a0 : -20000000 ≤ a.lo) (ab : a.lo ≤ a.hi) (a1 : a.hi ≤ 20000000) (c0 : 0 < b.lo) (cd : b.lo ≤ b.hi) (d1 : b.hi ≤ 20000000) :
    Calls Tryz.prog 139 #[.int .i64 h, (.agg #[.int .i64 (a.lo), .int .i64 (a.hi)]), (.agg #[.int .i64 (b.lo), .int .i64 (b.hi)])] w fun e w' => e = .returned (.agg #[.int .i64 ((faI h (diI a b)).lo), .int .i64 ((faI h (diI a b)).hi)]) ∧ Below w.heap.size w w' := by
  have di := fun w => sDiv_any a b w a0 ab a1 c0 cd d1
  have kb := diI_bd (a := a) (b := b) a0 (by omega) (by omega) a1 c0 (by omega)
  have fb := faI_bd (h := h) (q := diI a b) h0 h1 kb.1 kb.2.1 kb.2.2
  have fe : faI h (diI a b) = ⟨(-h * (diI a b).hi) / 1000000, -(-(-h * (diI a b).lo) / 1000000)⟩ := rfl
  generalize faI h (diI a b) = r at fe ⊢
  generalize diI a b = q at di kb fb fe
  obtain ⟨f1, f2, f3, f4⟩ := fb
  have DI := Lib.hid di; have FE := Lib.hid fe; clear di kb fe
  have e1 : IntKind.i64.wrap (-h) = -h := IntWalk.i64_in _ (by omega)
  have e2 : IntKind.i64.wrap (-h * q.hi) = -h * q.hi := IntWalk.i64_in _ (by omega)
  have e3 : IntKind.i64.wrap (-h * q.lo) = -h * q.lo := IntWalk.i64_in _ (by omega)
  go_enter Tryz.func139, Tryz.ntmps139
  go_wp2_with fail
  refine (DI.out _).mono ?_
  rintro _ w1 ⟨rfl, b_w1⟩
  obtain ⟨c_w1, f_w1, z_w1⟩ := bfacts b_w1 (by first | (simp; rfl) | rfl)
  have y0_w1 : w.heap.size + 1 + 1 < w1.heap.size := (by omega)
  have yb0_w1 : w.heap.size + 1 < w1.heap.size := (by omega)
  have yb1_w1 : w.heap.size < w1.heap.size := (by omega)
  have k0_0_w1 : w1.cell? ⟨w.heap.size + 1 + 1, 0, none⟩ = some (.int .i64 (0)) := (by first | exact (c_w1 _ _ (by omega)).trans (by go_simp) | go_simp)
  have l0_0_w1 : w1.frozen? ⟨w.heap.size + 1 + 1, 0, none⟩ = false := (by first | exact (f_w1 _ _ (by omega)).trans (by go_simp) | go_simp)
  have k0_1_w1 : w1.cell? ⟨w.heap.size + 1 + 1, 1, none⟩ = some (.int .i64 (0)) := (by first | exact (c_w1 _ _ (by omega)).trans (by go_simp) | go_simp)
  have l0_1_w1 : w1.frozen? ⟨w.heap.size + 1 + 1, 1, none⟩ = false := (by first | exact (f_w1 _ _ (by omega)).trans (by go_simp) | go_simp)
  clear c_w1 f_w1
  go_wp2_with fail
  refine wp_region_bl2 13 (fun w' => w'.cell? ⟨w1.heap.size, 0, none⟩ = some (.int .i64 (q.lo)) ∧ w'.cell? ⟨w1.heap.size, 1, none⟩ = some (.int .i64 (q.hi))) (by kernel_rfl) (by kernel_rfl) (by rfl) (fun w' hw' => ?_) (fun hS => ?_)
  focus exact ⟨(hw'.cell (p := ⟨w1.heap.size, 0, none⟩) (by first | omega | (simp; done) | (simp; omega))).trans (by go_simp), (hw'.cell (p := ⟨w1.heap.size, 1, none⟩) (by first | omega | (simp; done) | (simp; omega))).trans (by go_simp)⟩
  have HS := Lib.hid hS; clear hS
  simp only [List.take_succ_cons, List.take_zero, List.drop_succ_cons, List.drop_zero]
  repeat (first | (refine wpBl_op ?_ ?_ (fun K hK => ?_); (focus rfl); (focus rfl); apply Exists.intro; refine ⟨fun w' hw' => ?_, ?_⟩; (focus (first | (go_simp; first | (go_at_call 100; exact calls_below (sFloor_pos _ _ _ (by omega) (by omega) (by omega) (by omega))) | (go_at_call 145; exact calls_below (sCeil_pos _ _ _ (by omega) (by omega) (by omega) (by omega)))) | (obtain ⟨kr0, kr1⟩ := HS.out w' hw'; go_simp; rfl))); go_simp; refine hK _ ?_; clear hK K) | (refine wpBl_mk ?_ ?_ (fun K hK => ⟨fun g => .pointer (some ⟨g, 0, none⟩), ?_⟩); (focus rfl); (focus rfl); apply Exists.intro; refine ⟨fun w' => ?_, ?_⟩; (focus (go_simp; rfl)); go_simp; refine hK _ _ _ ?_; clear hK K) | (refine wpBl_no ?_ ?_ (fun K hK => ?_); (focus rfl); (focus rfl); go_simp; refine hK _ ?_; clear hK K))
  refine wpBl_end (fun w2 b_w2 => TailW_nil ?_)
  obtain ⟨c_w2, f_w2, z_w2⟩ := bfacts b_w2 (by first | (simp; rfl) | rfl)
  have y0_w2 : w.heap.size + 1 + 1 < w2.heap.size := (by omega)
  have yb0_w2 : w.heap.size + 1 < w2.heap.size := (by omega)
  have yb1_w2 : w.heap.size < w2.heap.size := (by omega)
  have k0_0_w2 : w2.cell? ⟨w.heap.size + 1 + 1, 0, none⟩ = some (.int .i64 (0)) := (by first | exact (c_w2 _ _ (by omega)).trans (by go_simp) | go_simp)
  have l0_0_w2 : w2.frozen? ⟨w.heap.size + 1 + 1, 0, none⟩ = false := (by first | exact (f_w2 _ _ (by omega)).trans (by go_simp) | go_simp)
  have k0_1_w2 : w2.cell? ⟨w.heap.size + 1 + 1, 1, none⟩ = some (.int .i64 (0)) := (by first | exact (c_w2 _ _ (by omega)).trans (by go_simp) | go_simp)
  have l0_1_w2 : w2.frozen? ⟨w.heap.size + 1 + 1, 1, none⟩ = false := (by first | exact (f_w2 _ _ (by omega)).trans (by go_simp) | go_simp)
  clear c_w2 f_w2
  clear HS
  go_simp
  go_wp2
  exact bodyPost_ret (v := (.agg #[.int .i64 (r.lo), .int .i64 (r.hi)])) (by rw [FE.out]; simp [results, Tryz.results139, go_sem, *]) rfl ⟨rfl, by (repeat' (first | with_reducible exact Below.refl _ _ | with_reducible refine Below.setCell ?_ ?_ _ | with_reducible refine Below.drew ?_ | with_reducible refine below_drewN ?_ _ | with_reducible refine Below.alloc ?_ ?_ _ | with_reducible refine below_step b_w2 ?_ ?_ | with_reducible refine below_step b_w1 ?_ ?_ | omega | (simp; done) | (simp; omega)))⟩

set_option maxHeartbeats 8000000 in
theorem sPlace_any (h : Int) (p : V3) (g cap : Nat) (w : World) (hg : g < w.heap.size) (h0 : 1 ≤ h) (h1 : h ≤ 10000) (x0 : -20000000 ≤ p.x.lo) (x1 : p.x.lo ≤ p.x.hi) (x2 : p.x.hi ≤ 20000000) (y0 : -20000000 ≤ p.y.lo) (y1 : p.y.lo ≤ p.y.hi) (y2 : p.y.hi ≤ 20000000) (z0 : 0 < p.z.lo) (z1 : p.z.lo ≤ p.z.hi) (z2 : p.z.hi ≤ 20000000)
    (k0 : w.cell? ⟨g, 0, none⟩ = some (.int .i64 p.x.lo)) (k1 : w.cell? ⟨g, 1, none⟩ = some (.int .i64 p.x.hi)) (k2 : w.cell? ⟨g, 2, none⟩ = some (.int .i64 p.y.lo)) (k3 : w.cell? ⟨g, 3, none⟩ = some (.int .i64 p.y.hi)) (k4 : w.cell? ⟨g, 4, none⟩ = some (.int .i64 p.z.lo)) (k5 : w.cell? ⟨g, 5, none⟩ = some (.int .i64 p.z.hi)) :
    Calls Tryz.prog 98 #[.int .i64 h, .slice (some ⟨g, 0, none⟩) 3 cap] w fun e w' => e = .returned (.agg #[.int .i64 ((spP h p).x.lo), .int .i64 ((spP h p).x.hi), .int .i64 ((spP h p).y.lo), .int .i64 ((spP h p).y.hi)]) ∧ Below w.heap.size w w' := by
  have hgw : ¬ g = w.heap.size := by omega
  have fx := fun w => sFar_any h p.x p.z w h0 h1 x0 x1 x2 z0 z1 z2
  have fy := fun w => sFar_any h p.y p.z w h0 h1 y0 y1 y2 z0 z1 z2
  unfold spP
  generalize faI h (diI p.x p.z) = f at fx ⊢
  generalize faI h (diI p.y p.z) = f' at fy ⊢
  have FX := Lib.hid fx; have FY := Lib.hid fy; clear fx fy
  go_enter Tryz.func98, Tryz.ntmps98
  go_wp2_with fail
  refine wp_region_bl2 17 (fun w' => w'.cell? ⟨g, 0, none⟩ = some (.int .i64 (p.x.lo)) ∧ w'.cell? ⟨g, 1, none⟩ = some (.int .i64 (p.x.hi)) ∧ w'.cell? ⟨g, 2, none⟩ = some (.int .i64 (p.y.lo)) ∧ w'.cell? ⟨g, 3, none⟩ = some (.int .i64 (p.y.hi)) ∧ w'.cell? ⟨g, 4, none⟩ = some (.int .i64 (p.z.lo)) ∧ w'.cell? ⟨g, 5, none⟩ = some (.int .i64 (p.z.hi))) (by kernel_rfl) (by kernel_rfl) (by rfl) (fun w' hw' => ?_) (fun hS => ?_)
  focus exact ⟨(hw'.cell (p := ⟨g, 0, none⟩) (by first | omega | (simp; done) | (simp; omega))).trans (by go_simp), (hw'.cell (p := ⟨g, 1, none⟩) (by first | omega | (simp; done) | (simp; omega))).trans (by go_simp), (hw'.cell (p := ⟨g, 2, none⟩) (by first | omega | (simp; done) | (simp; omega))).trans (by go_simp), (hw'.cell (p := ⟨g, 3, none⟩) (by first | omega | (simp; done) | (simp; omega))).trans (by go_simp), (hw'.cell (p := ⟨g, 4, none⟩) (by first | omega | (simp; done) | (simp; omega))).trans (by go_simp), (hw'.cell (p := ⟨g, 5, none⟩) (by first | omega | (simp; done) | (simp; omega))).trans (by go_simp)⟩
  have HS := Lib.hid hS; clear hS
  simp only [List.take_succ_cons, List.take_zero, List.drop_succ_cons, List.drop_zero]
  repeat (first | (refine wpBl_op ?_ ?_ (fun K hK => ?_); (focus rfl); (focus rfl); apply Exists.intro; refine ⟨fun w' hw' => ?_, ?_⟩; (focus (first | (go_simp; first | (go_at_call 139; with_reducible exact FX.out _) | (go_at_call 139; with_reducible exact FY.out _)) | (obtain ⟨kr0, kr1, kr2, kr3, kr4, kr5⟩ := HS.out w' hw'; go_simp; rfl))); go_simp; refine hK _ ?_; clear hK K) | (refine wpBl_mk ?_ ?_ (fun K hK => ⟨fun g => .pointer (some ⟨g, 0, none⟩), ?_⟩); (focus rfl); (focus rfl); apply Exists.intro; refine ⟨fun w' => ?_, ?_⟩; (focus (go_simp; rfl)); go_simp; refine hK _ _ _ ?_; clear hK K) | (refine wpBl_no ?_ ?_ (fun K hK => ?_); (focus rfl); (focus rfl); go_simp; refine hK _ ?_; clear hK K))
  refine wpBl_end (fun w1 b_w1 => TailW_nil ?_)
  obtain ⟨c_w1, f_w1, z_w1⟩ := bfacts b_w1 (by first | (simp; rfl) | rfl)
  have y0_w1 : w.heap.size < w1.heap.size := (by omega)
  have k0_0_w1 : w1.cell? ⟨w.heap.size, 0, none⟩ = some (.int .i64 (0)) := (by first | exact (c_w1 _ _ (by omega)).trans (by go_simp) | go_simp)
  have l0_0_w1 : w1.frozen? ⟨w.heap.size, 0, none⟩ = false := (by first | exact (f_w1 _ _ (by omega)).trans (by go_simp) | go_simp)
  have k0_1_w1 : w1.cell? ⟨w.heap.size, 1, none⟩ = some (.int .i64 (0)) := (by first | exact (c_w1 _ _ (by omega)).trans (by go_simp) | go_simp)
  have l0_1_w1 : w1.frozen? ⟨w.heap.size, 1, none⟩ = false := (by first | exact (f_w1 _ _ (by omega)).trans (by go_simp) | go_simp)
  have k0_2_w1 : w1.cell? ⟨w.heap.size, 2, none⟩ = some (.int .i64 (0)) := (by first | exact (c_w1 _ _ (by omega)).trans (by go_simp) | go_simp)
  have l0_2_w1 : w1.frozen? ⟨w.heap.size, 2, none⟩ = false := (by first | exact (f_w1 _ _ (by omega)).trans (by go_simp) | go_simp)
  have k0_3_w1 : w1.cell? ⟨w.heap.size, 3, none⟩ = some (.int .i64 (0)) := (by first | exact (c_w1 _ _ (by omega)).trans (by go_simp) | go_simp)
  have l0_3_w1 : w1.frozen? ⟨w.heap.size, 3, none⟩ = false := (by first | exact (f_w1 _ _ (by omega)).trans (by go_simp) | go_simp)
  clear c_w1 f_w1
  clear HS
  go_simp
  go_wp2
  exact bodyPost_ret (v := (.agg #[.int .i64 (f.lo), .int .i64 (f.hi), .int .i64 (f'.lo), .int .i64 (f'.hi)])) (by simp [results, Tryz.results98, go_sem, *]) rfl ⟨rfl, by (repeat' (first | with_reducible exact Below.refl _ _ | with_reducible refine Below.setCell ?_ ?_ _ | with_reducible refine Below.drew ?_ | with_reducible refine below_drewN ?_ _ | with_reducible refine Below.alloc ?_ ?_ _ | with_reducible refine below_step b_w1 ?_ ?_ | omega | (simp; done) | (simp; omega)))⟩

set_option maxHeartbeats 400000 in
theorem sCoord_any (a b : Int) (w : World) :
    Calls Tryz.prog 140 #[(.agg #[.int .i64 (a), .int .i64 (b)])] w fun e w' => e = .returned (.bool (coB a b)) ∧ Below w.heap.size w w' := by
  have r := Lib.hid (coB_eq a b)
  cases p : inB a (-1000000) b
  · go_enter Tryz.func140, Tryz.ntmps140
    go_wp2_with (go_at_call 54; refine (sIn_any _ _ _ _).mono ?_; rintro e w' ⟨rfl, rfl⟩)
    go_ret
    exact ⟨ret_bool (by rw [r.out, p]; rfl), by (repeat' (first | with_reducible exact Below.refl _ _ | with_reducible assumption | with_reducible refine Below.setCell ?_ ?_ _ | with_reducible refine Below.drew ?_ | with_reducible refine below_drewN ?_ _ | with_reducible refine Below.alloc ?_ ?_ _ | with_reducible refine below_step (by assumption) ?_ ?_ | omega | exact Below.size (by assumption) | (simp; done) | (simp; omega)))⟩
  · go_enter Tryz.func140, Tryz.ntmps140
    go_wp2_with (go_at_call 54; refine (sIn_any _ _ _ _).mono ?_; rintro e w' ⟨rfl, rfl⟩)
    go_ret
    exact ⟨ret_bool (by rw [r.out, p]; rfl), by (repeat' (first | with_reducible exact Below.refl _ _ | with_reducible assumption | with_reducible refine Below.setCell ?_ ?_ _ | with_reducible refine Below.drew ?_ | with_reducible refine below_drewN ?_ _ | with_reducible refine Below.alloc ?_ ?_ _ | with_reducible refine below_step (by assumption) ?_ ?_ | omega | exact Below.size (by assumption) | (simp; done) | (simp; omega)))⟩

set_option maxHeartbeats 1000000 in
theorem sIsPlace_any (p : P2) (w : World) :
    Calls Tryz.prog 99 #[(.agg #[.int .i64 (p.x.lo), .int .i64 (p.x.hi), .int .i64 (p.y.lo), .int .i64 (p.y.hi)])] w fun e w' => e = .returned (.bool (plB p)) ∧ Below w.heap.size w w' := by
  have c1 := fun w => sCoord_any p.x.lo p.x.hi w
  have c2 := fun w => sCoord_any p.y.lo p.y.hi w
  have r : plB p = (coB p.x.lo p.x.hi && coB p.y.lo p.y.hi) := rfl
  generalize coB p.x.lo p.x.hi = s1 at c1 r
  generalize coB p.y.lo p.y.hi = s2 at c2 r
  have R := Lib.hid r; have C1 := Lib.hid c1; have C2 := Lib.hid c2; clear r c1 c2
  cases s1
  · go_enter Tryz.func99, Tryz.ntmps99
    go_wp2_with fail
    refine (C1.out _).mono ?_
    rintro _ w1 ⟨rfl, b_w1⟩
    obtain ⟨c_w1, f_w1, z_w1⟩ := bfacts b_w1 (by first | (simp; rfl) | rfl)
    have y0_w1 : w.heap.size < w1.heap.size := (by omega)
    have k0_0_w1 : w1.cell? ⟨w.heap.size, 0, none⟩ = some (.int .i64 (p.x.lo)) := (by first | exact (c_w1 _ _ (by omega)).trans (by go_simp) | go_simp)
    have l0_0_w1 : w1.frozen? ⟨w.heap.size, 0, none⟩ = false := (by first | exact (f_w1 _ _ (by omega)).trans (by go_simp) | go_simp)
    have k0_1_w1 : w1.cell? ⟨w.heap.size, 1, none⟩ = some (.int .i64 (p.x.hi)) := (by first | exact (c_w1 _ _ (by omega)).trans (by go_simp) | go_simp)
    have l0_1_w1 : w1.frozen? ⟨w.heap.size, 1, none⟩ = false := (by first | exact (f_w1 _ _ (by omega)).trans (by go_simp) | go_simp)
    have k0_2_w1 : w1.cell? ⟨w.heap.size, 2, none⟩ = some (.int .i64 (p.y.lo)) := (by first | exact (c_w1 _ _ (by omega)).trans (by go_simp) | go_simp)
    have l0_2_w1 : w1.frozen? ⟨w.heap.size, 2, none⟩ = false := (by first | exact (f_w1 _ _ (by omega)).trans (by go_simp) | go_simp)
    have k0_3_w1 : w1.cell? ⟨w.heap.size, 3, none⟩ = some (.int .i64 (p.y.hi)) := (by first | exact (c_w1 _ _ (by omega)).trans (by go_simp) | go_simp)
    have l0_3_w1 : w1.frozen? ⟨w.heap.size, 3, none⟩ = false := (by first | exact (f_w1 _ _ (by omega)).trans (by go_simp) | go_simp)
    clear c_w1 f_w1
    go_wp2
    go_ret
    exact ⟨ret_bool (by rw [R.out]; rfl), by (repeat' (first | with_reducible exact Below.refl _ _ | with_reducible refine Below.setCell ?_ ?_ _ | with_reducible refine Below.drew ?_ | with_reducible refine below_drewN ?_ _ | with_reducible refine Below.alloc ?_ ?_ _ | with_reducible refine below_step b_w1 ?_ ?_ | omega | (simp; done) | (simp; omega)))⟩
  · go_enter Tryz.func99, Tryz.ntmps99
    go_wp2_with fail
    refine (C1.out _).mono ?_
    rintro _ w1 ⟨rfl, b_w1⟩
    obtain ⟨c_w1, f_w1, z_w1⟩ := bfacts b_w1 (by first | (simp; rfl) | rfl)
    have y0_w1 : w.heap.size < w1.heap.size := (by omega)
    have k0_0_w1 : w1.cell? ⟨w.heap.size, 0, none⟩ = some (.int .i64 (p.x.lo)) := (by first | exact (c_w1 _ _ (by omega)).trans (by go_simp) | go_simp)
    have l0_0_w1 : w1.frozen? ⟨w.heap.size, 0, none⟩ = false := (by first | exact (f_w1 _ _ (by omega)).trans (by go_simp) | go_simp)
    have k0_1_w1 : w1.cell? ⟨w.heap.size, 1, none⟩ = some (.int .i64 (p.x.hi)) := (by first | exact (c_w1 _ _ (by omega)).trans (by go_simp) | go_simp)
    have l0_1_w1 : w1.frozen? ⟨w.heap.size, 1, none⟩ = false := (by first | exact (f_w1 _ _ (by omega)).trans (by go_simp) | go_simp)
    have k0_2_w1 : w1.cell? ⟨w.heap.size, 2, none⟩ = some (.int .i64 (p.y.lo)) := (by first | exact (c_w1 _ _ (by omega)).trans (by go_simp) | go_simp)
    have l0_2_w1 : w1.frozen? ⟨w.heap.size, 2, none⟩ = false := (by first | exact (f_w1 _ _ (by omega)).trans (by go_simp) | go_simp)
    have k0_3_w1 : w1.cell? ⟨w.heap.size, 3, none⟩ = some (.int .i64 (p.y.hi)) := (by first | exact (c_w1 _ _ (by omega)).trans (by go_simp) | go_simp)
    have l0_3_w1 : w1.frozen? ⟨w.heap.size, 3, none⟩ = false := (by first | exact (f_w1 _ _ (by omega)).trans (by go_simp) | go_simp)
    clear c_w1 f_w1
    go_wp2_with fail
    refine (C2.out _).mono ?_
    rintro _ w2 ⟨rfl, b_w2⟩
    obtain ⟨c_w2, f_w2, z_w2⟩ := bfacts b_w2 (by first | (simp; rfl) | rfl)
    have y0_w2 : w.heap.size < w2.heap.size := (by omega)
    have k0_0_w2 : w2.cell? ⟨w.heap.size, 0, none⟩ = some (.int .i64 (p.x.lo)) := (by first | exact (c_w2 _ _ (by omega)).trans (by go_simp) | go_simp)
    have l0_0_w2 : w2.frozen? ⟨w.heap.size, 0, none⟩ = false := (by first | exact (f_w2 _ _ (by omega)).trans (by go_simp) | go_simp)
    have k0_1_w2 : w2.cell? ⟨w.heap.size, 1, none⟩ = some (.int .i64 (p.x.hi)) := (by first | exact (c_w2 _ _ (by omega)).trans (by go_simp) | go_simp)
    have l0_1_w2 : w2.frozen? ⟨w.heap.size, 1, none⟩ = false := (by first | exact (f_w2 _ _ (by omega)).trans (by go_simp) | go_simp)
    have k0_2_w2 : w2.cell? ⟨w.heap.size, 2, none⟩ = some (.int .i64 (p.y.lo)) := (by first | exact (c_w2 _ _ (by omega)).trans (by go_simp) | go_simp)
    have l0_2_w2 : w2.frozen? ⟨w.heap.size, 2, none⟩ = false := (by first | exact (f_w2 _ _ (by omega)).trans (by go_simp) | go_simp)
    have k0_3_w2 : w2.cell? ⟨w.heap.size, 3, none⟩ = some (.int .i64 (p.y.hi)) := (by first | exact (c_w2 _ _ (by omega)).trans (by go_simp) | go_simp)
    have l0_3_w2 : w2.frozen? ⟨w.heap.size, 3, none⟩ = false := (by first | exact (f_w2 _ _ (by omega)).trans (by go_simp) | go_simp)
    clear c_w2 f_w2
    go_wp2
    go_ret
    exact ⟨ret_bool (by rw [R.out]; simp), by (repeat' (first | with_reducible exact Below.refl _ _ | with_reducible refine Below.setCell ?_ ?_ _ | with_reducible refine Below.drew ?_ | with_reducible refine below_drewN ?_ _ | with_reducible refine Below.alloc ?_ ?_ _ | with_reducible refine below_step b_w2 ?_ ?_ | with_reducible refine below_step b_w1 ?_ ?_ | omega | (simp; done) | (simp; omega)))⟩

set_option maxHeartbeats 8000000 in
theorem sParts_any (az sl : Int) (v : V3) (g : Nat) (w : World) (hg : w.heap[g]? = some (.cells #[.int .i64 (toV (az - 324000) 0).x.lo, .int .i64 (toV (az - 324000) 0).x.hi, .int .i64 (toV (az - 324000) 0).y.lo, .int .i64 (toV (az - 324000) 0).y.hi, .int .i64 (toV (az - 324000) 0).z.lo, .int .i64 (toV (az - 324000) 0).z.hi, .int .i64 (toV az (sl + 324000)).x.lo, .int .i64 (toV az (sl + 324000)).x.hi, .int .i64 (toV az (sl + 324000)).y.lo, .int .i64 (toV az (sl + 324000)).y.hi, .int .i64 (toV az (sl + 324000)).z.lo, .int .i64 (toV az (sl + 324000)).z.hi, .int .i64 (toV az sl).x.lo, .int .i64 (toV az sl).x.hi, .int .i64 (toV az sl).y.lo, .int .i64 (toV az sl).y.hi, .int .i64 (toV az sl).z.lo, .int .i64 (toV az sl).z.hi] 102))
    (a0 : -3000000 ≤ v.x.lo) (a1 : v.x.lo ≤ v.x.hi) (a2 : v.x.hi ≤ 3000000) (b0 : -3000000 ≤ v.y.lo) (b1 : v.y.lo ≤ v.y.hi) (b2 : v.y.hi ≤ 3000000) (c0 : -3000000 ≤ v.z.lo) (c1 : v.z.lo ≤ v.z.hi) (c2 : v.z.hi ≤ 3000000) :
    Calls Tryz.prog 97 #[.slice (some ⟨g, 0, none⟩) 3 3, (.agg #[.int .i64 (v.x.lo), .int .i64 (v.x.hi), .int .i64 (v.y.lo), .int .i64 (v.y.hi), .int .i64 (v.z.lo), .int .i64 (v.z.hi)])] w fun e w' => ∃ g', e = .returned (.slice (some ⟨g', 0, none⟩) 3 3) ∧ w.heap.size ≤ g' ∧
      w'.heap[g']? = some (.cells #[.int .i64 (paV az sl v).x.lo, .int .i64 (paV az sl v).x.hi, .int .i64 (paV az sl v).y.lo, .int .i64 (paV az sl v).y.hi, .int .i64 (paV az sl v).z.lo, .int .i64 (paV az sl v).z.hi] 34) ∧ Below w.heap.size w w' := by
  have key : ∀ a b w, Calls Tryz.prog 138 #[(.agg #[.int .i64 ((toV a b).x.lo), .int .i64 ((toV a b).x.hi), .int .i64 ((toV a b).y.lo), .int .i64 ((toV a b).y.hi), .int .i64 ((toV a b).z.lo), .int .i64 ((toV a b).z.hi)]), (.agg #[.int .i64 (v.x.lo), .int .i64 (v.x.hi), .int .i64 (v.y.lo), .int .i64 (v.y.hi), .int .i64 (v.z.lo), .int .i64 (v.z.hi)])] w fun e w' => e = .returned (.agg #[.int .i64 ((doV v (toV a b)).lo), .int .i64 ((doV v (toV a b)).hi)]) ∧ Below w.heap.size w w' := fun a b w => by
    obtain ⟨t1, t2, t3, t4, t5, t6, t7, t8, t9⟩ := toV_bd a b
    have h := sDot_any (toV a b) v w (by omega) (by omega) (by omega) (by omega) (by omega) (by omega) (by omega) (by omega) (by omega) (by omega) (by omega) (by omega) (by omega) (by omega) (by omega) (by omega) (by omega) (by omega) (by omega) (by omega) (by omega) (by omega) (by omega) (by omega)
    rw [doV_comm (toV a b)] at h
    exact h
  have d0 := key (az - 324000) 0
  have d1 := key az (sl + 324000)
  have d2 := key az sl
  have e0 : (paV az sl v) = ⟨doV v (toV (az - 324000) 0), doV v (toV az (sl + 324000)), doV v (toV az sl)⟩ := rfl
  rw [e0]
  clear key e0
  generalize doV v (toV (az - 324000) 0) = q0 at d0 ⊢
  generalize doV v (toV az (sl + 324000)) = q1 at d1 ⊢
  generalize doV v (toV az sl) = q2 at d2 ⊢
  generalize toV (az - 324000) 0 = m0 at hg d0
  generalize toV az (sl + 324000) = m1 at hg d1
  generalize toV az sl = m2 at hg d2
  have D0 := Lib.hid d0; have D1 := Lib.hid d1; have D2 := Lib.hid d2; clear d0 d1 d2
  have z_hg : g < w.heap.size := heap_lt hg; have k0_hg : w.cell? ⟨g, 0, none⟩ = some (.int .i64 (m0.x.lo)) := ((blk_facts hg).1 0).trans (by simp); have l0_hg : w.frozen? ⟨g, 0, none⟩ = false := (blk_facts hg).2.1 0; have k1_hg : w.cell? ⟨g, 1, none⟩ = some (.int .i64 (m0.x.hi)) := ((blk_facts hg).1 1).trans (by simp); have l1_hg : w.frozen? ⟨g, 1, none⟩ = false := (blk_facts hg).2.1 1; have k2_hg : w.cell? ⟨g, 2, none⟩ = some (.int .i64 (m0.y.lo)) := ((blk_facts hg).1 2).trans (by simp); have l2_hg : w.frozen? ⟨g, 2, none⟩ = false := (blk_facts hg).2.1 2; have k3_hg : w.cell? ⟨g, 3, none⟩ = some (.int .i64 (m0.y.hi)) := ((blk_facts hg).1 3).trans (by simp); have l3_hg : w.frozen? ⟨g, 3, none⟩ = false := (blk_facts hg).2.1 3; have k4_hg : w.cell? ⟨g, 4, none⟩ = some (.int .i64 (m0.z.lo)) := ((blk_facts hg).1 4).trans (by simp); have l4_hg : w.frozen? ⟨g, 4, none⟩ = false := (blk_facts hg).2.1 4; have k5_hg : w.cell? ⟨g, 5, none⟩ = some (.int .i64 (m0.z.hi)) := ((blk_facts hg).1 5).trans (by simp); have l5_hg : w.frozen? ⟨g, 5, none⟩ = false := (blk_facts hg).2.1 5; have k6_hg : w.cell? ⟨g, 6, none⟩ = some (.int .i64 (m1.x.lo)) := ((blk_facts hg).1 6).trans (by simp); have l6_hg : w.frozen? ⟨g, 6, none⟩ = false := (blk_facts hg).2.1 6; have k7_hg : w.cell? ⟨g, 7, none⟩ = some (.int .i64 (m1.x.hi)) := ((blk_facts hg).1 7).trans (by simp); have l7_hg : w.frozen? ⟨g, 7, none⟩ = false := (blk_facts hg).2.1 7; have k8_hg : w.cell? ⟨g, 8, none⟩ = some (.int .i64 (m1.y.lo)) := ((blk_facts hg).1 8).trans (by simp); have l8_hg : w.frozen? ⟨g, 8, none⟩ = false := (blk_facts hg).2.1 8; have k9_hg : w.cell? ⟨g, 9, none⟩ = some (.int .i64 (m1.y.hi)) := ((blk_facts hg).1 9).trans (by simp); have l9_hg : w.frozen? ⟨g, 9, none⟩ = false := (blk_facts hg).2.1 9; have k10_hg : w.cell? ⟨g, 10, none⟩ = some (.int .i64 (m1.z.lo)) := ((blk_facts hg).1 10).trans (by simp); have l10_hg : w.frozen? ⟨g, 10, none⟩ = false := (blk_facts hg).2.1 10; have k11_hg : w.cell? ⟨g, 11, none⟩ = some (.int .i64 (m1.z.hi)) := ((blk_facts hg).1 11).trans (by simp); have l11_hg : w.frozen? ⟨g, 11, none⟩ = false := (blk_facts hg).2.1 11; have k12_hg : w.cell? ⟨g, 12, none⟩ = some (.int .i64 (m2.x.lo)) := ((blk_facts hg).1 12).trans (by simp); have l12_hg : w.frozen? ⟨g, 12, none⟩ = false := (blk_facts hg).2.1 12; have k13_hg : w.cell? ⟨g, 13, none⟩ = some (.int .i64 (m2.x.hi)) := ((blk_facts hg).1 13).trans (by simp); have l13_hg : w.frozen? ⟨g, 13, none⟩ = false := (blk_facts hg).2.1 13; have k14_hg : w.cell? ⟨g, 14, none⟩ = some (.int .i64 (m2.y.lo)) := ((blk_facts hg).1 14).trans (by simp); have l14_hg : w.frozen? ⟨g, 14, none⟩ = false := (blk_facts hg).2.1 14; have k15_hg : w.cell? ⟨g, 15, none⟩ = some (.int .i64 (m2.y.hi)) := ((blk_facts hg).1 15).trans (by simp); have l15_hg : w.frozen? ⟨g, 15, none⟩ = false := (blk_facts hg).2.1 15; have k16_hg : w.cell? ⟨g, 16, none⟩ = some (.int .i64 (m2.z.lo)) := ((blk_facts hg).1 16).trans (by simp); have l16_hg : w.frozen? ⟨g, 16, none⟩ = false := (blk_facts hg).2.1 16; have k17_hg : w.cell? ⟨g, 17, none⟩ = some (.int .i64 (m2.z.hi)) := ((blk_facts hg).1 17).trans (by simp); have l17_hg : w.frozen? ⟨g, 17, none⟩ = false := (blk_facts hg).2.1 17
  have hgw : ¬ g = w.heap.size := by omega
  clear hg
  go_enter Tryz.func97, Tryz.ntmps97
  go_wp2_with fail
  refine wp_region_bx2 16 none (.cells #[] 0) (fun w' => w'.cell? ⟨g, 0, none⟩ = some (.int .i64 (m0.x.lo)) ∧ w'.cell? ⟨g, 1, none⟩ = some (.int .i64 (m0.x.hi)) ∧ w'.cell? ⟨g, 2, none⟩ = some (.int .i64 (m0.y.lo)) ∧ w'.cell? ⟨g, 3, none⟩ = some (.int .i64 (m0.y.hi)) ∧ w'.cell? ⟨g, 4, none⟩ = some (.int .i64 (m0.z.lo)) ∧ w'.cell? ⟨g, 5, none⟩ = some (.int .i64 (m0.z.hi)) ∧ w'.cell? ⟨g, 6, none⟩ = some (.int .i64 (m1.x.lo)) ∧ w'.cell? ⟨g, 7, none⟩ = some (.int .i64 (m1.x.hi)) ∧ w'.cell? ⟨g, 8, none⟩ = some (.int .i64 (m1.y.lo)) ∧ w'.cell? ⟨g, 9, none⟩ = some (.int .i64 (m1.y.hi)) ∧ w'.cell? ⟨g, 10, none⟩ = some (.int .i64 (m1.z.lo)) ∧ w'.cell? ⟨g, 11, none⟩ = some (.int .i64 (m1.z.hi)) ∧ w'.cell? ⟨g, 12, none⟩ = some (.int .i64 (m2.x.lo)) ∧ w'.cell? ⟨g, 13, none⟩ = some (.int .i64 (m2.x.hi)) ∧ w'.cell? ⟨g, 14, none⟩ = some (.int .i64 (m2.y.lo)) ∧ w'.cell? ⟨g, 15, none⟩ = some (.int .i64 (m2.y.hi)) ∧ w'.cell? ⟨g, 16, none⟩ = some (.int .i64 (m2.z.lo)) ∧ w'.cell? ⟨g, 17, none⟩ = some (.int .i64 (m2.z.hi)) ∧ w'.cell? ⟨w.heap.size, 0, none⟩ = some (.int .i64 (v.x.lo)) ∧ w'.cell? ⟨w.heap.size, 1, none⟩ = some (.int .i64 (v.x.hi)) ∧ w'.cell? ⟨w.heap.size, 2, none⟩ = some (.int .i64 (v.y.lo)) ∧ w'.cell? ⟨w.heap.size, 3, none⟩ = some (.int .i64 (v.y.hi)) ∧ w'.cell? ⟨w.heap.size, 4, none⟩ = some (.int .i64 (v.z.lo)) ∧ w'.cell? ⟨w.heap.size, 5, none⟩ = some (.int .i64 (v.z.hi))) (by kernel_rfl) (by kernel_rfl) (by rfl) (fun b hb => by cases hb) (fun w' hw' => ?_) (fun hS => ?_)
  focus exact ⟨hw'.cell (a := ⟨g, 0, none⟩) (by go_simp) (by first | (simp; done) | (simp; omega)), hw'.cell (a := ⟨g, 1, none⟩) (by go_simp) (by first | (simp; done) | (simp; omega)), hw'.cell (a := ⟨g, 2, none⟩) (by go_simp) (by first | (simp; done) | (simp; omega)), hw'.cell (a := ⟨g, 3, none⟩) (by go_simp) (by first | (simp; done) | (simp; omega)), hw'.cell (a := ⟨g, 4, none⟩) (by go_simp) (by first | (simp; done) | (simp; omega)), hw'.cell (a := ⟨g, 5, none⟩) (by go_simp) (by first | (simp; done) | (simp; omega)), hw'.cell (a := ⟨g, 6, none⟩) (by go_simp) (by first | (simp; done) | (simp; omega)), hw'.cell (a := ⟨g, 7, none⟩) (by go_simp) (by first | (simp; done) | (simp; omega)), hw'.cell (a := ⟨g, 8, none⟩) (by go_simp) (by first | (simp; done) | (simp; omega)), hw'.cell (a := ⟨g, 9, none⟩) (by go_simp) (by first | (simp; done) | (simp; omega)), hw'.cell (a := ⟨g, 10, none⟩) (by go_simp) (by first | (simp; done) | (simp; omega)), hw'.cell (a := ⟨g, 11, none⟩) (by go_simp) (by first | (simp; done) | (simp; omega)), hw'.cell (a := ⟨g, 12, none⟩) (by go_simp) (by first | (simp; done) | (simp; omega)), hw'.cell (a := ⟨g, 13, none⟩) (by go_simp) (by first | (simp; done) | (simp; omega)), hw'.cell (a := ⟨g, 14, none⟩) (by go_simp) (by first | (simp; done) | (simp; omega)), hw'.cell (a := ⟨g, 15, none⟩) (by go_simp) (by first | (simp; done) | (simp; omega)), hw'.cell (a := ⟨g, 16, none⟩) (by go_simp) (by first | (simp; done) | (simp; omega)), hw'.cell (a := ⟨g, 17, none⟩) (by go_simp) (by first | (simp; done) | (simp; omega)), hw'.cell (a := ⟨w.heap.size, 0, none⟩) (by go_simp) (by first | (simp; done) | (simp; omega)), hw'.cell (a := ⟨w.heap.size, 1, none⟩) (by go_simp) (by first | (simp; done) | (simp; omega)), hw'.cell (a := ⟨w.heap.size, 2, none⟩) (by go_simp) (by first | (simp; done) | (simp; omega)), hw'.cell (a := ⟨w.heap.size, 3, none⟩) (by go_simp) (by first | (simp; done) | (simp; omega)), hw'.cell (a := ⟨w.heap.size, 4, none⟩) (by go_simp) (by first | (simp; done) | (simp; omega)), hw'.cell (a := ⟨w.heap.size, 5, none⟩) (by go_simp) (by first | (simp; done) | (simp; omega))⟩
  have HS := Lib.hid hS; clear hS
  simp only [List.take_succ_cons, List.take_zero, List.drop_succ_cons, List.drop_zero]
  repeat (first | (refine wpBx_op ?_ (fun K hK => ?_); (focus exact fun _ => rfl); apply Exists.intro; refine ⟨fun γ w' hw' => ?_, ?_⟩; (focus (first | (go_simp; first | (go_at_call 138; first | with_reducible exact D0.out _ | with_reducible exact D1.out _ | with_reducible exact D2.out _)) | (obtain ⟨kr0, kr1, kr2, kr3, kr4, kr5, kr6, kr7, kr8, kr9, kr10, kr11, kr12, kr13, kr14, kr15, kr16, kr17, kr18, kr19, kr20, kr21, kr22, kr23⟩ := HS.out w' hw'; go_simp; rfl))); go_simp; refine hK _ ?_; clear hK K) | (refine wpBx_mk (fun g => .slice (some ⟨g, 0, none⟩) 3 3) ?_ (fun K hK => ?_); (focus exact fun _ => rfl); apply Exists.intro; refine ⟨fun γ w' hw' => ?_, ?_⟩; (focus (go_simp; first | rfl | exact ⟨rfl, rfl⟩ | trivial)); go_simp; refine hK _ _ ?_; clear hK K) | (refine wpBx_no ?_ (fun K hK => ?_); (focus exact fun _ => rfl); go_simp; refine hK _ ?_; clear hK K))
  refine wpBx_end ?_
  intro γ w1 gr_w1 ho_w1
  refine TailX_cons (fun g0_w1 e0_w1 h0_w1 k0_w1 n0_w1 => TailX_nil ?_)
  (try simp only [Nat.zero_add, Nat.reduceAdd] at e0_w1)
  (try simp only [e0_w1])
  clear e0_w1
  clear γ
  clear ho_w1
  have b_w1 := below_of_grown gr_w1
  clear gr_w1
  obtain ⟨c_w1, f_w1, z_w1⟩ := bfacts b_w1 (by first | (simp; rfl) | rfl)
  have hk0_w1 := Lib.hid k0_w1
  obtain ⟨cg0_w1, fg0_w1, zg0_w1⟩ := blk_facts k0_w1
  (try simp at h0_w1)
  (try simp at n0_w1)
  clear k0_w1
  have y0_w1 : w.heap.size < w1.heap.size := (by omega)
  clear HS
  go_simp
  go_wp2
  go_ret
  exact ⟨g0_w1, rfl, by omega, hk0_w1.out, by (repeat' (first | with_reducible exact Below.refl _ _ | with_reducible refine Below.setCell ?_ ?_ _ | with_reducible refine Below.drew ?_ | with_reducible refine below_drewN ?_ _ | with_reducible refine Below.alloc ?_ ?_ _ | with_reducible refine below_step b_w1 ?_ ?_ | omega | (simp; done) | (simp; omega)))⟩


end Go.Proofs.YteooegliepbcnaaGreat
