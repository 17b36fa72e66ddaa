/- What the program's functions of chapter 5 return. -/
import Derived.Test.YteooegliepbcnaaGreatA
namespace Go.Proofs.YteooegliepbcnaaGreat
set_option linter.unusedVariables false
set_option linter.unusedSimpArgs false
set_option maxRecDepth 10000
open Go.RowKit


set_option maxHeartbeats 400000 in
theorem kept_any (a : Int) (w : World) :
    Calls Tryz.prog 178 #[.int .i64 a] w fun e w' => e = .returned (.int .i64 (keM a)) ∧ w = w' := by
  go_enter Tryz.func178, Tryz.ntmps178
  go_wp2
  all_goals go_ret
  all_goals exact ⟨ret_int (by first | rfl | (simp only [keM]; omega)), rfl⟩

set_option maxHeartbeats 1000000 in
theorem arcSine_any (v : Int) (w : World) :
    Calls Tryz.prog 147 #[.int .i64 v] w fun e w' => e = .returned (.agg #[.int .i64 (aL v), .int .i64 (aH v)]) ∧ Below w.heap.size w w' := by
  have hmf : ∀ (fn : Fn) (first cap : Array Value) (w : World), (Instr.makeFunc fn first cap).run Tryz.prog w = .ok (.func fn first cap) w := fun _ _ _ _ => rfl
  have hb := aHb_bd v
  go_enter Tryz.func147, Tryz.ntmps147
  go_wp2_with fail
  refine (halve_arc1 _ _ _ (fun m => decide (sH m < v)) _ (fun m W h1 h2 hB => arcSine1_any m v w.heap.size W ?_ ?_ (by omega) (by omega)) (by omega) (by omega) (by omega)).mono ?_
  · rw [hB.cell (by first | omega | (simp; done) | (simp; omega))]; simp
  · have := hB.size; simp at this; omega
  rintro e w1 ⟨he, b_w1⟩
  obtain rfl : e = .returned (.int .i64 (aLb v)) := he
  obtain ⟨c_w1, f_w1, z_w1⟩ := bfacts b_w1 (by first | (simp; rfl) | rfl); have y0_w1 : w.heap.size < w1.heap.size := (by omega); have y1_w1 : w.heap.size + 1 < w1.heap.size := (by omega)
  go_wp2_with fail
  refine (halve_arc2 _ _ _ (fun m => decide (sL m ≤ v)) _ (fun m W h1 h2 hB => arcSine2_any m v w.heap.size W ?_ ?_ (by omega) (by omega)) (by omega) (by omega) (by omega)).mono ?_
  · rw [hB.cell (by first | omega | (simp; done) | (simp; omega)), c_w1 _ _ (by omega)]; simp
  · have := hB.size; omega
  rintro e w2 ⟨he, b_w2⟩
  obtain rfl : e = .returned (.int .i64 (aHb v)) := he
  obtain ⟨c_w2, f_w2, z_w2⟩ := bfacts b_w2 (by first | (simp; rfl) | rfl); have y0_w2 : w.heap.size < w2.heap.size := (by omega); have y1_w2 : w.heap.size + 1 < w2.heap.size := (by omega)
  go_wp2_with (go_at_call 178; refine (kept_any _ _).mono ?_; rintro e w' ⟨rfl, rfl⟩)
  refine bodyPost_ret (v := (.agg #[.int .i64 (aL v), .int .i64 (aH v)])) (by simp [results, Tryz.results147, go_sem, aL, aH, *]) rfl ⟨rfl, ?_⟩
  (repeat' (first | with_reducible exact Below.refl _ _ | with_reducible assumption | with_reducible refine Below.setCell ?_ ?_ _ | with_reducible refine Below.drew ?_ | with_reducible refine below_drewN ?_ _ | with_reducible refine Below.alloc ?_ ?_ _ | with_reducible refine below_step (by assumption) ?_ ?_ | omega | exact Below.size (by assumption) | (simp; done) | (simp; omega)))


end Go.Proofs.YteooegliepbcnaaGreat
