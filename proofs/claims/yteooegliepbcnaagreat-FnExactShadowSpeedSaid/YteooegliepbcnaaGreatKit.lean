/- Small helpers for the walks: what stays below a block's number, endings. -/
import Derived.Test.YteooegliepbcnaaGreatRows
import Derived.Test.YteooegliepbcnaaGreatMath
import Derived.WalkKit
import Derived.WalkSpells
import Derived.WalkLawsBesides
import Derived.IntWalk
import Derived.Lib.Hide
import Derived.Deep.QuietTactic
import Derived.BigQuiet
import Derived.Deep.RegionHeld3
import Derived.Deep.RegionWith
import Derived.Carry
import Derived.Lib.MinMax
namespace Go.Proofs.YteooegliepbcnaaGreat
set_option linter.unusedVariables false
set_option linter.unusedSimpArgs false
set_option maxRecDepth 10000
open Go.RowKit

theorem if_min (a b : Int) : (if b < a then b else a) = min a b := by rw [Int.min_def]; split <;> split <;> omega
theorem if_max (a b : Int) : (if b > a then b else a) = max a b := by rw [Int.max_def]; split <;> split <;> omega
section
variable {P : Program} (w : World) (ts : Array TypeId) (t : TypeId) (p q r s : Int)
@[go_sem high] theorem run_min4 : (Builtin.min_ ts t #[.int .i64 p, .int .i64 q, .int .i64 r, .int .i64 s]).run P w = .ok (.int .i64 (mn4 p q r s)) w := by
  simp [Builtin.min_, Builtin.min2, if_min, mn4]
@[go_sem high] theorem run_max4 : (Builtin.max_ ts t #[.int .i64 p, .int .i64 q, .int .i64 r, .int .i64 s]).run P w = .ok (.int .i64 (mx4 p q r s)) w := by
  have e : ∀ a b : Int, (if a < b then b else a) = max a b := if_max
  simp [Builtin.max_, Builtin.max2, e, mx4]
@[go_sem high] theorem run_max3 : (Builtin.max_ ts t #[.int .i64 p, .int .i64 q, .int .i64 r]).run P w = .ok (.int .i64 (mx3 p q r)) w := by
  have e : ∀ a b : Int, (if a < b then b else a) = max a b := if_max
  simp [Builtin.max_, Builtin.max2, e, mx3]
end
theorem bcell {W w1 : World} (hb : Below W.heap.size W w1) : (∀ b o, b < W.heap.size → w1.cell? ⟨b, o, none⟩ = W.cell? ⟨b, o, none⟩) ∧ (∀ b o, b < W.heap.size → w1.frozen? ⟨b, o, none⟩ = W.frozen? ⟨b, o, none⟩) :=
  ⟨fun b o h => hb.cell (p := ⟨b, o, none⟩) h, fun b o h => hb.frozen (p := ⟨b, o, none⟩) h⟩
theorem bfacts {W w1 : World} {n : Nat} (hb : Below W.heap.size W w1) (hn : W.heap.size = n) : (∀ b o, b < n → w1.cell? ⟨b, o, none⟩ = W.cell? ⟨b, o, none⟩) ∧ (∀ b o, b < n → w1.frozen? ⟨b, o, none⟩ = W.frozen? ⟨b, o, none⟩) ∧ n ≤ w1.heap.size := by
  subst hn
  exact ⟨(bcell hb).1, (bcell hb).2, hb.size⟩
theorem below_step {B : Nat} {a b c : World} (k : Below b.heap.size b c) (h : Below B a b) (hB : B ≤ b.heap.size) : Below B a c := h.trans (k.mono hB)
theorem below_drewN {B : Nat} {a w : World} (h : Below B a w) (n : Nat) : Below B a (w.drewN n) := ⟨h.os, h.tape, h.output, h.size, h.block⟩
theorem ret_int {k : IntKind} {a b : Int} (h : a = b) : Ending.returned (.int k a) = .returned (.int k b) := by rw [h]
theorem ret_bool {a b : Bool} (h : a = b) : Ending.returned (.bool a) = .returned (.bool b) := by rw [h]


@[go_sem] theorem field_iv0 (x y : Value) (w : World) : (Instr.field 34 (.agg #[x, y]) 0).run Tryz.prog w = .ok x w := by kernel_rfl
@[go_sem] theorem field_iv1 (x y : Value) (w : World) : (Instr.field 34 (.agg #[x, y]) 1).run Tryz.prog w = .ok y w := by kernel_rfl

@[go_sem] theorem field_v0 (a b c d e f : Value) (w : World) : (Instr.field 102 (.agg #[a, b, c, d, e, f]) 0).run Tryz.prog w = .ok (.agg #[a, b]) w := by kernel_rfl
@[go_sem] theorem field_v1 (a b c d e f : Value) (w : World) : (Instr.field 102 (.agg #[a, b, c, d, e, f]) 1).run Tryz.prog w = .ok (.agg #[c, d]) w := by kernel_rfl
@[go_sem] theorem field_v2 (a b c d e f : Value) (w : World) : (Instr.field 102 (.agg #[a, b, c, d, e, f]) 2).run Tryz.prog w = .ok (.agg #[e, f]) w := by kernel_rfl


end Go.Proofs.YteooegliepbcnaaGreat
