/- The laws' own copies of arguments. -/
import Derived.Test.YtikmepppnechaaaReg
namespace Go.Proofs.Ytikmepppnechaaa
set_option linter.unusedVariables false
set_option linter.unusedSimpArgs false
open Go.RowKit


set_option maxHeartbeats 400000 in
theorem toWall_any (a b : Int) (w : World) :
    Calls Try.prog 29 #[(.agg #[.int .i64 (a), .int .i64 (b)])] w fun e w' => e = .returned (.agg #[.int .i64 (a), .int .i64 (b)]) ∧ Below w.heap.size w w' := by
  go_enter Try.func29, Try.ntmps29
  go_wp2
  exact bodyPost_ret (v := (.agg #[.int .i64 (a), .int .i64 (b)])) (by simp [results, Try.results29, go_sem, *]) rfl ⟨rfl, by (repeat' (first | with_reducible exact Below.refl _ _ | with_reducible assumption | with_reducible refine Below.setCell ?_ ?_ _ | with_reducible refine Below.drew ?_ | with_reducible refine below_drewN ?_ _ | with_reducible refine Below.alloc ?_ ?_ _ | with_reducible refine below_step (by assumption) ?_ ?_ | omega | exact Below.size (by assumption) | (simp; done) | (simp; omega)))⟩

set_option maxHeartbeats 400000 in
theorem toMoment_any (a b : Int) (w : World) :
    Calls Try.prog 19 #[(.agg #[.int .i64 (a), .int .i64 (b)])] w fun e w' => e = .returned (.agg #[.int .i64 (a), .int .i64 (b)]) ∧ Below w.heap.size w w' := by
  go_enter Try.func19, Try.ntmps19
  go_wp2
  exact bodyPost_ret (v := (.agg #[.int .i64 (a), .int .i64 (b)])) (by simp [results, Try.results19, go_sem, *]) rfl ⟨rfl, by (repeat' (first | with_reducible exact Below.refl _ _ | with_reducible assumption | with_reducible refine Below.setCell ?_ ?_ _ | with_reducible refine Below.drew ?_ | with_reducible refine below_drewN ?_ _ | with_reducible refine Below.alloc ?_ ?_ _ | with_reducible refine below_step (by assumption) ?_ ?_ | omega | exact Below.size (by assumption) | (simp; done) | (simp; omega)))⟩


end Go.Proofs.Ytikmepppnechaaa
