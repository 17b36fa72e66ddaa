/- Helpers for slices that grow by append: what a step leaves, what the slice holds in the end. -/
import Derived.Test.YteooegliepbcnaaGreatReg
import Derived.Laws.AppendOwn
import Derived.OwnWalk
namespace Go.Proofs.YteooegliepbcnaaGreat
set_option linter.unusedVariables false
set_option linter.unusedSimpArgs false
set_option maxRecDepth 10000
open Go.RowKit

theorem grown_of_below {w w' : World} (h : Below w.heap.size w w') : w.grownBy w' none := ⟨h.os, h.tape, h.output, h.size, fun k hk _ => h.block k hk⟩
theorem own_below {w w' : World} {base : Nat} {e : TypeId} {size n : Nat} {v : Value} {xs : List Value} (h : w.ownsRow base e size v n xs) (hb : Below w.heap.size w w') : w'.ownsRow base e size v n xs :=
  h.kept (grown_of_below hb) (by cases v.ownBlock <;> simp)
theorem heap_below {w w' : World} {g : Nat} {o : Obj} (h : w.heap[g]? = some o) (hb : Below w.heap.size w w') : w'.heap[g]? = some o := (hb.block g (heap_lt h)).trans h
theorem heap_alloc {w : World} {g : Nat} {o o' : Obj} (h : w.heap[g]? = some o) : (w.alloc o').heap[g]? = some o := (heap_alloc_old w o' (heap_lt h)).trans h
theorem own_ne {w : World} {base : Nat} {e t : TypeId} {size n : Nat} {v : Value} {xs : List Value} (h : w.ownsRow base e size v n xs) {d : Nat} {cs : Array Value} (hd : w.heap[d]? = some (.cells cs t)) (ht : t ≠ e) : v.ownBlock ≠ some d := by
  intro hv
  rcases h.2 with ⟨rfl, _⟩ | ⟨g, cap, cur, rfl, _, hg, _⟩
  · simp [Value.ownBlock] at hv
  · simp [Value.ownBlock] at hv
    subst hv
    rw [hg] at hd
    cases hd
    exact ht rfl
/-- Behind an append: a block of another type is as it was. -/
theorem heap_grown {w w' : World} {base : Nat} {e t : TypeId} {size n : Nat} {v : Value} {xs : List Value} (h : w.ownsRow base e size v n xs) (hg : w.grownBy w' v.ownBlock) {d : Nat} {cs : Array Value} (hd : w.heap[d]? = some (.cells cs t)) (ht : t ≠ e) :
    w'.heap[d]? = some (.cells cs t) := (hg.block d (heap_lt hd) (fun e => own_ne h hd ht e.symm)).trans hd
theorem below_grown {w w' : World} {base : Nat} {e : TypeId} {size n : Nat} {v : Value} {xs : List Value} (h : w.ownsRow base e size v n xs) (hg : w.grownBy w' v.ownBlock) (hb : base ≤ w.heap.size) : Below base w w' :=
  ⟨hg.os, hg.tape, hg.output, hg.size, fun k hk => hg.block k (by omega) (fun e => by have := h.lt k e.symm; omega)⟩
/-- What a slice that is not empty holds. -/
theorem own_open {w : World} {base : Nat} {e : TypeId} {n : Nat} {v : Value} {xs : List Value} (h : w.ownsRow base e 1 v n xs) (hn : 0 < n) :
    ∃ g cap, v = .slice (some ⟨g, 0, none⟩) n cap ∧ base ≤ g ∧ g < w.heap.size ∧ n ≤ cap ∧ cap ≤ maxLen ∧ ∀ j u, xs[j]? = some u → w.cell? ⟨g, j, none⟩ = some u := by
  rcases h.2 with ⟨rfl, h0⟩ | ⟨g, cap, cur, rfl, hb, hg, hc, hm, _⟩
  · omega
  · refine ⟨g, cap, rfl, hb, heap_lt hg, hc, hm, fun j u hu => ?_⟩
    have := h.cells (g := g) rfl j u hu
    have e : (⟨g, 0, none⟩ : Addr).add j = ⟨g, j, none⟩ := by unfold Addr.add; split <;> simp_all
    rwa [e] at this
theorem heap_set0 {w : World} {g : Nat} {a b : Value} {t : TypeId} (v : Value) (h : w.heap[g]? = some (.cells #[a, b] t)) : (w.setCell ⟨g, 0, none⟩ v).heap[g]? = some (.cells #[v, b] t) := heap_setCell_same w g 0 _ t v h
theorem heap_set1 {w : World} {g : Nat} {a b : Value} {t : TypeId} (v : Value) (h : w.heap[g]? = some (.cells #[a, b] t)) : (w.setCell ⟨g, 1, none⟩ v).heap[g]? = some (.cells #[a, v] t) := heap_setCell_same w g 1 _ t v h
theorem heap_setn {w : World} {g : Nat} {o : Obj} {a : Addr} {v : Value} (h : w.heap[g]? = some o) (hn : g ≠ a.block) : (w.setCell a v).heap[g]? = some o := (heap_setCell_other w a g v hn).trans h
theorem map_range_get {f : Nat → Value} {n j : Nat} (h : j < n) : ((List.range n).map f)[j]? = some (f j) := by simp [h]
theorem map_range_succ {f : Nat → Value} (n : Nat) : (List.range n).map f ++ [f n] = (List.range (n + 1)).map f := by rw [List.range_succ, List.map_append]; rfl
/-- The cell of a new block of one number. -/
theorem one_cell {w : World} {x : Value} {t : TypeId} : ∀ j u, ([x] : List Value)[j]? = some u → (w.alloc (.cells #[x] t)).cell? ((⟨w.heap.size, 0, none⟩ : Addr).add j) = some u := by
  intro j u hj
  match j, hj with
  | 0, hj => simp at hj; subst hj; simp [Addr.add]
theorem one_int {k : IntKind} {x : Int} : ∀ u ∈ ([.int k x] : List Value), u.oneCell' = true := by intro u hu; simp at hu; subst hu; rfl

theorem info_i64 : (Tryz.prog.info? 2).map (fun i => (i.zero, i.size, i.bytes)) = some (some (.int .i64 0), 1, 8) := by kernel_rfl


end Go.Proofs.YteooegliepbcnaaGreat
