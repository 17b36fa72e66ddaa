/- What the program's functions on intervals return: sums, products, ranges of sines. -/
import Derived.Test.YtfhoogaijamekaaA2
import Derived.Test.YtfhoogaijamekaaReg
namespace Go.Proofs.Ytfhoogaijamekaa
open Go.RowKit


set_option maxHeartbeats 400000 in
theorem minus_any (a b c d : Int) (w : World) (a0 : -4000000000000 ≤ a) (a1 : a ≤ 4000000000000) (b0 : -4000000000000 ≤ b) (b1 : b ≤ 4000000000000) (c0 : -4000000000000 ≤ c) (c1 : c ≤ 4000000000000) (d0 : -4000000000000 ≤ d) (d1 : d ≤ 4000000000000) :
    Calls Try.prog 36 #[(.agg #[.int .i64 (a), .int .i64 (b)]), (.agg #[.int .i64 (c), .int .i64 (d)])] w fun e w' => e = .returned (.agg #[.int .i64 ((miI ⟨a, b⟩ ⟨c, d⟩).lo), .int .i64 ((miI ⟨a, b⟩ ⟨c, d⟩).hi)]) ∧ Below w.heap.size w w' := by
  go_enter Try.func36, Try.ntmps36
  go_wp2
  exact bodyPost_ret (v := (.agg #[.int .i64 ((miI ⟨a, b⟩ ⟨c, d⟩).lo), .int .i64 ((miI ⟨a, b⟩ ⟨c, d⟩).hi)])) (by simp [results, Try.results36, go_sem, miI]) rfl ⟨rfl, by (repeat' (first | with_reducible exact Below.refl _ _ | with_reducible assumption | with_reducible refine Below.setCell ?_ ?_ _ | with_reducible refine Below.drew ?_ | with_reducible refine below_drewN ?_ _ | with_reducible refine Below.alloc ?_ ?_ _ | with_reducible refine below_step (by assumption) ?_ ?_ | omega | exact Below.size (by assumption) | (simp; done) | (simp; omega)))⟩


end Go.Proofs.Ytfhoogaijamekaa
