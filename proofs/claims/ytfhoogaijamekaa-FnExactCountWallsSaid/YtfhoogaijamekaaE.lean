/- What the laws' own helpers return: equality of structs. -/
import Derived.Test.YtfhoogaijamekaaKit
namespace Go.Proofs.Ytfhoogaijamekaa
open Go.RowKit


set_option maxHeartbeats 400000 in
theorem eqInterval_same (a b : Int) (w : World) :
    Calls Try.prog 16 #[(.agg #[.int .i64 (a), .int .i64 (b)]), (.agg #[.int .i64 (a), .int .i64 (b)])] w fun e w' => e = .returned (.bool true) ∧ Below w.heap.size w w' := by
  go_enter Try.func16, Try.ntmps16
  go_wp2
  go_ret
  exact ⟨rfl, by (repeat' (first | with_reducible exact Below.refl _ _ | with_reducible assumption | with_reducible refine Below.setCell ?_ ?_ _ | with_reducible refine Below.drew ?_ | with_reducible refine below_drewN ?_ _ | with_reducible refine Below.alloc ?_ ?_ _ | with_reducible refine below_step (by assumption) ?_ ?_ | omega | exact Below.size (by assumption) | (simp; done) | (simp; omega)))⟩


end Go.Proofs.Ytfhoogaijamekaa
