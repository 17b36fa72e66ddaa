/- What the program's functions on the parts of a direction and on shadows return. -/
import Derived.Test.YteooegliepbcnaaGreatQ
namespace Go.Proofs.YteooegliepbcnaaGreat
set_option linter.unusedVariables false
set_option linter.unusedSimpArgs false
set_option maxRecDepth 10000
open Go.RowKit

/-- What a slice of pairs holds. -/
theorem own_open2 {w : World} {base : Nat} {e : TypeId} {n : Nat} {v : Value} {xs : List Value} (h : w.ownsRow base e 2 v n xs) (hn : 0 < n) :
    ∃ g cap, v = .slice (some ⟨g, 0, none⟩) n cap ∧ base ≤ g ∧ g < w.heap.size ∧ n ≤ cap ∧ cap ≤ maxLen ∧ ∀ j u, xs[j]? = some u → w.cell? ⟨g, j, none⟩ = some u := by
  rcases h.2 with ⟨rfl, h0⟩ | ⟨g, cap, cur, rfl, hb, hg, hc, hm, _⟩
  · omega
  · refine ⟨g, cap, rfl, hb, heap_lt hg, hc, hm, fun j u hu => ?_⟩
    have := h.cells (g := g) rfl j u hu
    have e : (⟨g, 0, none⟩ : Addr).add j = ⟨g, j, none⟩ := by unfold Addr.add; split <;> simp_all
    rwa [e] at this
theorem two_cells {w : World} {x y : Value} {t : TypeId} : ∀ j u, ([x, y] : List Value)[j]? = some u → (w.alloc (.cells #[x, y] t)).cell? ((⟨w.heap.size, 0, none⟩ : Addr).add j) = some u := by
  intro j u hj
  match j, hj with
  | 0, hj => simp at hj; subst hj; simp [Addr.add]
  | 1, hj => simp at hj; subst hj; simp [Addr.add]
theorem two_ints {k : IntKind} {x y : Int} : ∀ u ∈ ([.int k x, .int k y] : List Value), u.oneCell' = true := by intro u hu; simp at hu; rcases hu with rfl | rfl <;> rfl

theorem info_iv : (Tryz.prog.info? 34).map (fun i => (i.zero, i.size, i.bytes)) = some (some (.agg #[.int .i64 0, .int .i64 0]), 2, 16) := by kernel_rfl

set_option maxHeartbeats 8000000 in
theorem parts_any (az sl : Int) (v : V3) (w : World) (z0 : 0 ≤ az) (z1 : az ≤ 1295999) (y0 : -324000 ≤ sl) (y1 : sl ≤ 324000)
    (a0 : -3000000 ≤ v.x.lo) (a1 : v.x.lo ≤ v.x.hi) (a2 : v.x.hi ≤ 3000000) (b0 : -3000000 ≤ v.y.lo) (b1 : v.y.lo ≤ v.y.hi) (b2 : v.y.hi ≤ 3000000) (c0 : -3000000 ≤ v.z.lo) (c1 : v.z.lo ≤ v.z.hi) (c2 : v.z.hi ≤ 3000000) :
    Calls Tryz.prog 154 #[(.agg #[.int .i64 (az), .int .i64 (sl)]), (.agg #[.int .i64 (v.x.lo), .int .i64 (v.x.hi), .int .i64 (v.y.lo), .int .i64 (v.y.hi), .int .i64 (v.z.lo), .int .i64 (v.z.hi)])] w fun e w' => ∃ g cap : Nat, e = .returned (.slice (some ⟨g, 0, none⟩) 3 cap) ∧ w.heap.size ≤ g ∧ g < w'.heap.size ∧
      (w'.cell? ⟨g, 0, none⟩ = some (.int .i64 (paV az sl v).x.lo) ∧ w'.cell? ⟨g, 1, none⟩ = some (.int .i64 (paV az sl v).x.hi) ∧ w'.cell? ⟨g, 2, none⟩ = some (.int .i64 (paV az sl v).y.lo) ∧ w'.cell? ⟨g, 3, none⟩ = some (.int .i64 (paV az sl v).y.hi) ∧ w'.cell? ⟨g, 4, none⟩ = some (.int .i64 (paV az sl v).z.lo) ∧ w'.cell? ⟨g, 5, none⟩ = some (.int .i64 (paV az sl v).z.hi)) ∧ Below w.heap.size w w' := by
  obtain ⟨m0, m1, m2, q0, q1, q2, ax, d0, d1, d2, e0, e1, e2⟩ : ∃ (m0 m1 m2 : V3) (q0 q1 q2 : Iv), (∀ w, Calls Tryz.prog 182 #[(.agg #[.int .i64 (az), .int .i64 (sl)])] w fun e w' => ∃ g : Nat, e = .returned (.slice (some ⟨g, 0, none⟩) 3 3) ∧ w.heap.size ≤ g ∧ w'.heap[g]? = some (.cells #[.int .i64 m0.x.lo, .int .i64 m0.x.hi, .int .i64 m0.y.lo, .int .i64 m0.y.hi, .int .i64 m0.z.lo, .int .i64 m0.z.hi, .int .i64 m1.x.lo, .int .i64 m1.x.hi, .int .i64 m1.y.lo, .int .i64 m1.y.hi, .int .i64 m1.z.lo, .int .i64 m1.z.hi, .int .i64 m2.x.lo, .int .i64 m2.x.hi, .int .i64 m2.y.lo, .int .i64 m2.y.hi, .int .i64 m2.z.lo, .int .i64 m2.z.hi] 102) ∧ Below w.heap.size w w') ∧
      (∀ w, Calls Tryz.prog 183 #[(.agg #[.int .i64 (v.x.lo), .int .i64 (v.x.hi), .int .i64 (v.y.lo), .int .i64 (v.y.hi), .int .i64 (v.z.lo), .int .i64 (v.z.hi)]), (.agg #[.int .i64 (m0.x.lo), .int .i64 (m0.x.hi), .int .i64 (m0.y.lo), .int .i64 (m0.y.hi), .int .i64 (m0.z.lo), .int .i64 (m0.z.hi)])] w fun e w' => e = .returned (.agg #[.int .i64 (q0.lo), .int .i64 (q0.hi)]) ∧ Below w.heap.size w w') ∧
      (∀ w, Calls Tryz.prog 183 #[(.agg #[.int .i64 (v.x.lo), .int .i64 (v.x.hi), .int .i64 (v.y.lo), .int .i64 (v.y.hi), .int .i64 (v.z.lo), .int .i64 (v.z.hi)]), (.agg #[.int .i64 (m1.x.lo), .int .i64 (m1.x.hi), .int .i64 (m1.y.lo), .int .i64 (m1.y.hi), .int .i64 (m1.z.lo), .int .i64 (m1.z.hi)])] w fun e w' => e = .returned (.agg #[.int .i64 (q1.lo), .int .i64 (q1.hi)]) ∧ Below w.heap.size w w') ∧
      (∀ w, Calls Tryz.prog 183 #[(.agg #[.int .i64 (v.x.lo), .int .i64 (v.x.hi), .int .i64 (v.y.lo), .int .i64 (v.y.hi), .int .i64 (v.z.lo), .int .i64 (v.z.hi)]), (.agg #[.int .i64 (m2.x.lo), .int .i64 (m2.x.hi), .int .i64 (m2.y.lo), .int .i64 (m2.y.hi), .int .i64 (m2.z.lo), .int .i64 (m2.z.hi)])] w fun e w' => e = .returned (.agg #[.int .i64 (q2.lo), .int .i64 (q2.hi)]) ∧ Below w.heap.size w w') ∧
      q0 = (paV az sl v).x ∧ q1 = (paV az sl v).y ∧ q2 = (paV az sl v).z := by
    have key : ∀ a b w, Calls Tryz.prog 183 #[(.agg #[.int .i64 (v.x.lo), .int .i64 (v.x.hi), .int .i64 (v.y.lo), .int .i64 (v.y.hi), .int .i64 (v.z.lo), .int .i64 (v.z.hi)]), (.agg #[.int .i64 ((toV a b).x.lo), .int .i64 ((toV a b).x.hi), .int .i64 ((toV a b).y.lo), .int .i64 ((toV a b).y.hi), .int .i64 ((toV a b).z.lo), .int .i64 ((toV a b).z.hi)])] w fun e w' => e = .returned (.agg #[.int .i64 ((doV v (toV a b)).lo), .int .i64 ((doV v (toV a b)).hi)]) ∧ Below w.heap.size w w' := fun a b w => by
      obtain ⟨t1, t2, t3, t4, t5, t6, t7, t8, t9⟩ := toV_bd a b
      exact dot_any v (toV a b) w (by omega) (by omega) (by omega) (by omega) (by omega) (by omega) (by omega) (by omega) (by omega) (by omega) (by omega) (by omega) (by omega) (by omega) (by omega) (by omega) (by omega) (by omega) (by omega) (by omega) (by omega) (by omega) (by omega) (by omega)
    exact ⟨toV (az - 324000) 0, toV az (sl + 324000), toV az sl, _, _, _, fun w => axes_any az sl w (by omega) (by omega) (by omega) (by omega), key _ _, key _ _, key _ _, rfl, rfl, rfl⟩
  rw [← e0, ← e1, ← e2]
  have AX := Lib.hid ax; have D0 := Lib.hid d0; have D1 := Lib.hid d1; have D2 := Lib.hid d2; clear ax d0 d1 d2 e0 e1 e2 a0 a1 a2 b0 b1 b2 c0 c1 c2
  obtain ⟨i0, hi, hz0, hz1, hz2⟩ := info_parts info_iv
  have HI := Lib.hid hi; have HZ0 := Lib.hid hz0; have HZ1 := Lib.hid hz1; have HZ2 := Lib.hid hz2
  clear hi hz0 hz1 hz2
  go_enter Tryz.func154, Tryz.ntmps154
  go_wp2_with fail
  refine (AX.out _).mono ?_
  rintro _ w1 ⟨g, rfl, hg1, hg2, b_w1⟩
  have hB1 : Below w.heap.size w w1 := by (repeat' (first | with_reducible exact Below.refl _ _ | with_reducible refine Below.setCell ?_ ?_ _ | with_reducible refine Below.drew ?_ | with_reducible refine below_drewN ?_ _ | with_reducible refine Below.alloc ?_ ?_ _ | with_reducible refine below_step b_w1 ?_ ?_ | omega | (simp; done) | (simp; omega)))
  have hv1 : w1.heap[w.heap.size + 1]? = some (.cells #[.int .i64 v.x.lo, .int .i64 v.x.hi, .int .i64 v.y.lo, .int .i64 v.y.hi, .int .i64 v.z.lo, .int .i64 v.z.hi] 102) := heap_below (by have := heap_alloc (heap_alloc_new (w.alloc (.cells #[.int .i64 az, .int .i64 sl] 28)) (.cells #[.int .i64 v.x.lo, .int .i64 v.x.hi, .int .i64 v.y.lo, .int .i64 v.y.hi, .int .i64 v.z.lo, .int .i64 v.z.hi] 102)) (o' := .cells #[] 34); simpa using this) b_w1
  have ho1 : w1.ownsRow (w.heap.size + 2) 34 2 (.slice (some ⟨w.heap.size + 2, 0, none⟩) 0 0) 0 [] := own_below (by have := World.ownsRow_made (base := w.heap.size + 2) (e := 34) (size := 2) ((w.alloc (.cells #[.int .i64 az, .int .i64 sl] 28)).alloc (.cells #[.int .i64 v.x.lo, .int .i64 v.x.hi, .int .i64 v.y.lo, .int .i64 v.y.hi, .int .i64 v.z.lo, .int .i64 v.z.hi] 102)) #[] 0 (by simp) (by simp [maxLen]) rfl; simpa using this) b_w1
  have zz := b_w1.size
  simp at zz hg1
  have HG1 := Lib.hid hg2; have HV1 := Lib.hid hv1; have HO1 := Lib.hid ho1; have HB1 := Lib.hid hB1
  clear hg2 hv1 ho1 hB1 b_w1
  go_wp2_with fail
  refine wp_loop_rounds 4 ?_
  rw [rounds_succ]
  have z_HG1 : g < w1.heap.size := heap_lt HG1.out; have k0_HG1 : w1.cell? ⟨g, 0, none⟩ = some (.int .i64 (m0.x.lo)) := ((blk_facts HG1.out).1 0).trans (by simp); have l0_HG1 : w1.frozen? ⟨g, 0, none⟩ = false := (blk_facts HG1.out).2.1 0; have k1_HG1 : w1.cell? ⟨g, 1, none⟩ = some (.int .i64 (m0.x.hi)) := ((blk_facts HG1.out).1 1).trans (by simp); have l1_HG1 : w1.frozen? ⟨g, 1, none⟩ = false := (blk_facts HG1.out).2.1 1; have k2_HG1 : w1.cell? ⟨g, 2, none⟩ = some (.int .i64 (m0.y.lo)) := ((blk_facts HG1.out).1 2).trans (by simp); have l2_HG1 : w1.frozen? ⟨g, 2, none⟩ = false := (blk_facts HG1.out).2.1 2; have k3_HG1 : w1.cell? ⟨g, 3, none⟩ = some (.int .i64 (m0.y.hi)) := ((blk_facts HG1.out).1 3).trans (by simp); have l3_HG1 : w1.frozen? ⟨g, 3, none⟩ = false := (blk_facts HG1.out).2.1 3; have k4_HG1 : w1.cell? ⟨g, 4, none⟩ = some (.int .i64 (m0.z.lo)) := ((blk_facts HG1.out).1 4).trans (by simp); have l4_HG1 : w1.frozen? ⟨g, 4, none⟩ = false := (blk_facts HG1.out).2.1 4; have k5_HG1 : w1.cell? ⟨g, 5, none⟩ = some (.int .i64 (m0.z.hi)) := ((blk_facts HG1.out).1 5).trans (by simp); have l5_HG1 : w1.frozen? ⟨g, 5, none⟩ = false := (blk_facts HG1.out).2.1 5; have k6_HG1 : w1.cell? ⟨g, 6, none⟩ = some (.int .i64 (m1.x.lo)) := ((blk_facts HG1.out).1 6).trans (by simp); have l6_HG1 : w1.frozen? ⟨g, 6, none⟩ = false := (blk_facts HG1.out).2.1 6; have k7_HG1 : w1.cell? ⟨g, 7, none⟩ = some (.int .i64 (m1.x.hi)) := ((blk_facts HG1.out).1 7).trans (by simp); have l7_HG1 : w1.frozen? ⟨g, 7, none⟩ = false := (blk_facts HG1.out).2.1 7; have k8_HG1 : w1.cell? ⟨g, 8, none⟩ = some (.int .i64 (m1.y.lo)) := ((blk_facts HG1.out).1 8).trans (by simp); have l8_HG1 : w1.frozen? ⟨g, 8, none⟩ = false := (blk_facts HG1.out).2.1 8; have k9_HG1 : w1.cell? ⟨g, 9, none⟩ = some (.int .i64 (m1.y.hi)) := ((blk_facts HG1.out).1 9).trans (by simp); have l9_HG1 : w1.frozen? ⟨g, 9, none⟩ = false := (blk_facts HG1.out).2.1 9; have k10_HG1 : w1.cell? ⟨g, 10, none⟩ = some (.int .i64 (m1.z.lo)) := ((blk_facts HG1.out).1 10).trans (by simp); have l10_HG1 : w1.frozen? ⟨g, 10, none⟩ = false := (blk_facts HG1.out).2.1 10; have k11_HG1 : w1.cell? ⟨g, 11, none⟩ = some (.int .i64 (m1.z.hi)) := ((blk_facts HG1.out).1 11).trans (by simp); have l11_HG1 : w1.frozen? ⟨g, 11, none⟩ = false := (blk_facts HG1.out).2.1 11; have k12_HG1 : w1.cell? ⟨g, 12, none⟩ = some (.int .i64 (m2.x.lo)) := ((blk_facts HG1.out).1 12).trans (by simp); have l12_HG1 : w1.frozen? ⟨g, 12, none⟩ = false := (blk_facts HG1.out).2.1 12; have k13_HG1 : w1.cell? ⟨g, 13, none⟩ = some (.int .i64 (m2.x.hi)) := ((blk_facts HG1.out).1 13).trans (by simp); have l13_HG1 : w1.frozen? ⟨g, 13, none⟩ = false := (blk_facts HG1.out).2.1 13; have k14_HG1 : w1.cell? ⟨g, 14, none⟩ = some (.int .i64 (m2.y.lo)) := ((blk_facts HG1.out).1 14).trans (by simp); have l14_HG1 : w1.frozen? ⟨g, 14, none⟩ = false := (blk_facts HG1.out).2.1 14; have k15_HG1 : w1.cell? ⟨g, 15, none⟩ = some (.int .i64 (m2.y.hi)) := ((blk_facts HG1.out).1 15).trans (by simp); have l15_HG1 : w1.frozen? ⟨g, 15, none⟩ = false := (blk_facts HG1.out).2.1 15; have k16_HG1 : w1.cell? ⟨g, 16, none⟩ = some (.int .i64 (m2.z.lo)) := ((blk_facts HG1.out).1 16).trans (by simp); have l16_HG1 : w1.frozen? ⟨g, 16, none⟩ = false := (blk_facts HG1.out).2.1 16; have k17_HG1 : w1.cell? ⟨g, 17, none⟩ = some (.int .i64 (m2.z.hi)) := ((blk_facts HG1.out).1 17).trans (by simp); have l17_HG1 : w1.frozen? ⟨g, 17, none⟩ = false := (blk_facts HG1.out).2.1 17
  have z_HV1 : w.heap.size + 1 < w1.heap.size := heap_lt HV1.out; have k0_HV1 : w1.cell? ⟨w.heap.size + 1, 0, none⟩ = some (.int .i64 (v.x.lo)) := ((blk_facts HV1.out).1 0).trans (by simp); have l0_HV1 : w1.frozen? ⟨w.heap.size + 1, 0, none⟩ = false := (blk_facts HV1.out).2.1 0; have k1_HV1 : w1.cell? ⟨w.heap.size + 1, 1, none⟩ = some (.int .i64 (v.x.hi)) := ((blk_facts HV1.out).1 1).trans (by simp); have l1_HV1 : w1.frozen? ⟨w.heap.size + 1, 1, none⟩ = false := (blk_facts HV1.out).2.1 1; have k2_HV1 : w1.cell? ⟨w.heap.size + 1, 2, none⟩ = some (.int .i64 (v.y.lo)) := ((blk_facts HV1.out).1 2).trans (by simp); have l2_HV1 : w1.frozen? ⟨w.heap.size + 1, 2, none⟩ = false := (blk_facts HV1.out).2.1 2; have k3_HV1 : w1.cell? ⟨w.heap.size + 1, 3, none⟩ = some (.int .i64 (v.y.hi)) := ((blk_facts HV1.out).1 3).trans (by simp); have l3_HV1 : w1.frozen? ⟨w.heap.size + 1, 3, none⟩ = false := (blk_facts HV1.out).2.1 3; have k4_HV1 : w1.cell? ⟨w.heap.size + 1, 4, none⟩ = some (.int .i64 (v.z.lo)) := ((blk_facts HV1.out).1 4).trans (by simp); have l4_HV1 : w1.frozen? ⟨w.heap.size + 1, 4, none⟩ = false := (blk_facts HV1.out).2.1 4; have k5_HV1 : w1.cell? ⟨w.heap.size + 1, 5, none⟩ = some (.int .i64 (v.z.hi)) := ((blk_facts HV1.out).1 5).trans (by simp); have l5_HV1 : w1.frozen? ⟨w.heap.size + 1, 5, none⟩ = false := (blk_facts HV1.out).2.1 5
  go_wp2_with fail
  refine (D0.out _).mono ?_
  rintro _ w2 ⟨rfl, b_w2⟩
  obtain ⟨c_w2, f_w2, z_w2⟩ := bfacts b_w2 (by first | (simp; rfl) | rfl)
  have bb0 : Below w1.heap.size w1 w2 := by (repeat' (first | with_reducible exact Below.refl _ _ | with_reducible refine Below.setCell ?_ ?_ _ | with_reducible refine Below.drew ?_ | with_reducible refine below_drewN ?_ _ | with_reducible refine Below.alloc ?_ ?_ _ | with_reducible refine below_step b_w2 ?_ ?_ | omega | (simp; done) | (simp; omega)))
  have ho0a := Lib.hid (own_below HO1.out bb0)
  have hg0a := Lib.hid (heap_below HG1.out bb0)
  have hv0a := Lib.hid (heap_below HV1.out bb0)
  have zz0 := bb0.size
  have hb0a := Lib.hid (HB1.out.trans (bb0.mono (by omega)))
  clear bb0 b_w2
  go_wp2_with (at_builtin; refine wpList_append_own _ rfl _ _ 117 rfl (w.heap.size + 2) 34 i0 (.agg #[.int .i64 0, .int .i64 0]) 2 16 Tryz.underlying117 HI.out HZ0.out HZ1.out HZ2.out rfl (by decide) _ _ _ rfl (ho0a.out.alloc _) ⟨w2.heap.size, 0, none⟩ 1 1 [.int .i64 q0.lo, .int .i64 q0.hi] rfl rfl ?c1 ?c2 ?c3 ?c4 ?c5 ?_)
  case c1 => exact two_cells
  case c2 => exact two_ints
  case c3 => unfold maxLen; omega
  case c4 => omega
  case c5 => simp; omega
  intro v0 w3 ho0' hgrow0 _
  have hown0 := ho0a.out.alloc (.cells #[.int .i64 q0.lo, .int .i64 q0.hi] 34)
  have HG0b := Lib.hid (heap_grown hown0 hgrow0 (heap_alloc hg0a.out) (by decide))
  have HV0b := Lib.hid (heap_grown hown0 hgrow0 (heap_alloc hv0a.out) (by decide))
  have HB0b := Lib.hid ((hb0a.out.trans (Below.alloc (Below.refl _ _) (by omega) _)).trans ((below_grown hown0 hgrow0 (by simp; omega)).mono (by omega)))
  have zb0 := hgrow0.size
  simp at zb0
  have HO0b := Lib.hid ho0'
  clear ho0' hgrow0 hown0
  go_wp2_with fail
  rw [rounds_succ]
  have z_HG0b : g < w3.heap.size := heap_lt HG0b.out; have k0_HG0b : w3.cell? ⟨g, 0, none⟩ = some (.int .i64 (m0.x.lo)) := ((blk_facts HG0b.out).1 0).trans (by simp); have l0_HG0b : w3.frozen? ⟨g, 0, none⟩ = false := (blk_facts HG0b.out).2.1 0; have k1_HG0b : w3.cell? ⟨g, 1, none⟩ = some (.int .i64 (m0.x.hi)) := ((blk_facts HG0b.out).1 1).trans (by simp); have l1_HG0b : w3.frozen? ⟨g, 1, none⟩ = false := (blk_facts HG0b.out).2.1 1; have k2_HG0b : w3.cell? ⟨g, 2, none⟩ = some (.int .i64 (m0.y.lo)) := ((blk_facts HG0b.out).1 2).trans (by simp); have l2_HG0b : w3.frozen? ⟨g, 2, none⟩ = false := (blk_facts HG0b.out).2.1 2; have k3_HG0b : w3.cell? ⟨g, 3, none⟩ = some (.int .i64 (m0.y.hi)) := ((blk_facts HG0b.out).1 3).trans (by simp); have l3_HG0b : w3.frozen? ⟨g, 3, none⟩ = false := (blk_facts HG0b.out).2.1 3; have k4_HG0b : w3.cell? ⟨g, 4, none⟩ = some (.int .i64 (m0.z.lo)) := ((blk_facts HG0b.out).1 4).trans (by simp); have l4_HG0b : w3.frozen? ⟨g, 4, none⟩ = false := (blk_facts HG0b.out).2.1 4; have k5_HG0b : w3.cell? ⟨g, 5, none⟩ = some (.int .i64 (m0.z.hi)) := ((blk_facts HG0b.out).1 5).trans (by simp); have l5_HG0b : w3.frozen? ⟨g, 5, none⟩ = false := (blk_facts HG0b.out).2.1 5; have k6_HG0b : w3.cell? ⟨g, 6, none⟩ = some (.int .i64 (m1.x.lo)) := ((blk_facts HG0b.out).1 6).trans (by simp); have l6_HG0b : w3.frozen? ⟨g, 6, none⟩ = false := (blk_facts HG0b.out).2.1 6; have k7_HG0b : w3.cell? ⟨g, 7, none⟩ = some (.int .i64 (m1.x.hi)) := ((blk_facts HG0b.out).1 7).trans (by simp); have l7_HG0b : w3.frozen? ⟨g, 7, none⟩ = false := (blk_facts HG0b.out).2.1 7; have k8_HG0b : w3.cell? ⟨g, 8, none⟩ = some (.int .i64 (m1.y.lo)) := ((blk_facts HG0b.out).1 8).trans (by simp); have l8_HG0b : w3.frozen? ⟨g, 8, none⟩ = false := (blk_facts HG0b.out).2.1 8; have k9_HG0b : w3.cell? ⟨g, 9, none⟩ = some (.int .i64 (m1.y.hi)) := ((blk_facts HG0b.out).1 9).trans (by simp); have l9_HG0b : w3.frozen? ⟨g, 9, none⟩ = false := (blk_facts HG0b.out).2.1 9; have k10_HG0b : w3.cell? ⟨g, 10, none⟩ = some (.int .i64 (m1.z.lo)) := ((blk_facts HG0b.out).1 10).trans (by simp); have l10_HG0b : w3.frozen? ⟨g, 10, none⟩ = false := (blk_facts HG0b.out).2.1 10; have k11_HG0b : w3.cell? ⟨g, 11, none⟩ = some (.int .i64 (m1.z.hi)) := ((blk_facts HG0b.out).1 11).trans (by simp); have l11_HG0b : w3.frozen? ⟨g, 11, none⟩ = false := (blk_facts HG0b.out).2.1 11; have k12_HG0b : w3.cell? ⟨g, 12, none⟩ = some (.int .i64 (m2.x.lo)) := ((blk_facts HG0b.out).1 12).trans (by simp); have l12_HG0b : w3.frozen? ⟨g, 12, none⟩ = false := (blk_facts HG0b.out).2.1 12; have k13_HG0b : w3.cell? ⟨g, 13, none⟩ = some (.int .i64 (m2.x.hi)) := ((blk_facts HG0b.out).1 13).trans (by simp); have l13_HG0b : w3.frozen? ⟨g, 13, none⟩ = false := (blk_facts HG0b.out).2.1 13; have k14_HG0b : w3.cell? ⟨g, 14, none⟩ = some (.int .i64 (m2.y.lo)) := ((blk_facts HG0b.out).1 14).trans (by simp); have l14_HG0b : w3.frozen? ⟨g, 14, none⟩ = false := (blk_facts HG0b.out).2.1 14; have k15_HG0b : w3.cell? ⟨g, 15, none⟩ = some (.int .i64 (m2.y.hi)) := ((blk_facts HG0b.out).1 15).trans (by simp); have l15_HG0b : w3.frozen? ⟨g, 15, none⟩ = false := (blk_facts HG0b.out).2.1 15; have k16_HG0b : w3.cell? ⟨g, 16, none⟩ = some (.int .i64 (m2.z.lo)) := ((blk_facts HG0b.out).1 16).trans (by simp); have l16_HG0b : w3.frozen? ⟨g, 16, none⟩ = false := (blk_facts HG0b.out).2.1 16; have k17_HG0b : w3.cell? ⟨g, 17, none⟩ = some (.int .i64 (m2.z.hi)) := ((blk_facts HG0b.out).1 17).trans (by simp); have l17_HG0b : w3.frozen? ⟨g, 17, none⟩ = false := (blk_facts HG0b.out).2.1 17
  have z_HV0b : w.heap.size + 1 < w3.heap.size := heap_lt HV0b.out; have k0_HV0b : w3.cell? ⟨w.heap.size + 1, 0, none⟩ = some (.int .i64 (v.x.lo)) := ((blk_facts HV0b.out).1 0).trans (by simp); have l0_HV0b : w3.frozen? ⟨w.heap.size + 1, 0, none⟩ = false := (blk_facts HV0b.out).2.1 0; have k1_HV0b : w3.cell? ⟨w.heap.size + 1, 1, none⟩ = some (.int .i64 (v.x.hi)) := ((blk_facts HV0b.out).1 1).trans (by simp); have l1_HV0b : w3.frozen? ⟨w.heap.size + 1, 1, none⟩ = false := (blk_facts HV0b.out).2.1 1; have k2_HV0b : w3.cell? ⟨w.heap.size + 1, 2, none⟩ = some (.int .i64 (v.y.lo)) := ((blk_facts HV0b.out).1 2).trans (by simp); have l2_HV0b : w3.frozen? ⟨w.heap.size + 1, 2, none⟩ = false := (blk_facts HV0b.out).2.1 2; have k3_HV0b : w3.cell? ⟨w.heap.size + 1, 3, none⟩ = some (.int .i64 (v.y.hi)) := ((blk_facts HV0b.out).1 3).trans (by simp); have l3_HV0b : w3.frozen? ⟨w.heap.size + 1, 3, none⟩ = false := (blk_facts HV0b.out).2.1 3; have k4_HV0b : w3.cell? ⟨w.heap.size + 1, 4, none⟩ = some (.int .i64 (v.z.lo)) := ((blk_facts HV0b.out).1 4).trans (by simp); have l4_HV0b : w3.frozen? ⟨w.heap.size + 1, 4, none⟩ = false := (blk_facts HV0b.out).2.1 4; have k5_HV0b : w3.cell? ⟨w.heap.size + 1, 5, none⟩ = some (.int .i64 (v.z.hi)) := ((blk_facts HV0b.out).1 5).trans (by simp); have l5_HV0b : w3.frozen? ⟨w.heap.size + 1, 5, none⟩ = false := (blk_facts HV0b.out).2.1 5
  go_wp2_with fail
  refine (D1.out _).mono ?_
  rintro _ w4 ⟨rfl, b_w4⟩
  obtain ⟨c_w4, f_w4, z_w4⟩ := bfacts b_w4 (by first | (simp; rfl) | rfl)
  have bb1 : Below w3.heap.size w3 w4 := by (repeat' (first | with_reducible exact Below.refl _ _ | with_reducible refine Below.setCell ?_ ?_ _ | with_reducible refine Below.drew ?_ | with_reducible refine below_drewN ?_ _ | with_reducible refine Below.alloc ?_ ?_ _ | with_reducible refine below_step b_w4 ?_ ?_ | omega | (simp; done) | (simp; omega)))
  have ho1a := Lib.hid (own_below HO0b.out bb1)
  have hg1a := Lib.hid (heap_below HG0b.out bb1)
  have hv1a := Lib.hid (heap_below HV0b.out bb1)
  have zz1 := bb1.size
  have hb1a := Lib.hid (HB0b.out.trans (bb1.mono (by omega)))
  clear bb1 b_w4
  go_wp2_with (at_builtin; refine wpList_append_own _ rfl _ _ 117 rfl (w.heap.size + 2) 34 i0 (.agg #[.int .i64 0, .int .i64 0]) 2 16 Tryz.underlying117 HI.out HZ0.out HZ1.out HZ2.out rfl (by decide) _ _ _ rfl (ho1a.out.alloc _) ⟨w4.heap.size, 0, none⟩ 1 1 [.int .i64 q1.lo, .int .i64 q1.hi] rfl rfl ?c1 ?c2 ?c3 ?c4 ?c5 ?_)
  case c1 => exact two_cells
  case c2 => exact two_ints
  case c3 => unfold maxLen; omega
  case c4 => omega
  case c5 => simp; omega
  intro v1 w5 ho1' hgrow1 _
  have hown1 := ho1a.out.alloc (.cells #[.int .i64 q1.lo, .int .i64 q1.hi] 34)
  have HG1b := Lib.hid (heap_grown hown1 hgrow1 (heap_alloc hg1a.out) (by decide))
  have HV1b := Lib.hid (heap_grown hown1 hgrow1 (heap_alloc hv1a.out) (by decide))
  have HB1b := Lib.hid ((hb1a.out.trans (Below.alloc (Below.refl _ _) (by omega) _)).trans ((below_grown hown1 hgrow1 (by simp; omega)).mono (by omega)))
  have zb1 := hgrow1.size
  simp at zb1
  have HO1b := Lib.hid ho1'
  clear ho1' hgrow1 hown1
  go_wp2_with fail
  rw [rounds_succ]
  have z_HG1b : g < w5.heap.size := heap_lt HG1b.out; have k0_HG1b : w5.cell? ⟨g, 0, none⟩ = some (.int .i64 (m0.x.lo)) := ((blk_facts HG1b.out).1 0).trans (by simp); have l0_HG1b : w5.frozen? ⟨g, 0, none⟩ = false := (blk_facts HG1b.out).2.1 0; have k1_HG1b : w5.cell? ⟨g, 1, none⟩ = some (.int .i64 (m0.x.hi)) := ((blk_facts HG1b.out).1 1).trans (by simp); have l1_HG1b : w5.frozen? ⟨g, 1, none⟩ = false := (blk_facts HG1b.out).2.1 1; have k2_HG1b : w5.cell? ⟨g, 2, none⟩ = some (.int .i64 (m0.y.lo)) := ((blk_facts HG1b.out).1 2).trans (by simp); have l2_HG1b : w5.frozen? ⟨g, 2, none⟩ = false := (blk_facts HG1b.out).2.1 2; have k3_HG1b : w5.cell? ⟨g, 3, none⟩ = some (.int .i64 (m0.y.hi)) := ((blk_facts HG1b.out).1 3).trans (by simp); have l3_HG1b : w5.frozen? ⟨g, 3, none⟩ = false := (blk_facts HG1b.out).2.1 3; have k4_HG1b : w5.cell? ⟨g, 4, none⟩ = some (.int .i64 (m0.z.lo)) := ((blk_facts HG1b.out).1 4).trans (by simp); have l4_HG1b : w5.frozen? ⟨g, 4, none⟩ = false := (blk_facts HG1b.out).2.1 4; have k5_HG1b : w5.cell? ⟨g, 5, none⟩ = some (.int .i64 (m0.z.hi)) := ((blk_facts HG1b.out).1 5).trans (by simp); have l5_HG1b : w5.frozen? ⟨g, 5, none⟩ = false := (blk_facts HG1b.out).2.1 5; have k6_HG1b : w5.cell? ⟨g, 6, none⟩ = some (.int .i64 (m1.x.lo)) := ((blk_facts HG1b.out).1 6).trans (by simp); have l6_HG1b : w5.frozen? ⟨g, 6, none⟩ = false := (blk_facts HG1b.out).2.1 6; have k7_HG1b : w5.cell? ⟨g, 7, none⟩ = some (.int .i64 (m1.x.hi)) := ((blk_facts HG1b.out).1 7).trans (by simp); have l7_HG1b : w5.frozen? ⟨g, 7, none⟩ = false := (blk_facts HG1b.out).2.1 7; have k8_HG1b : w5.cell? ⟨g, 8, none⟩ = some (.int .i64 (m1.y.lo)) := ((blk_facts HG1b.out).1 8).trans (by simp); have l8_HG1b : w5.frozen? ⟨g, 8, none⟩ = false := (blk_facts HG1b.out).2.1 8; have k9_HG1b : w5.cell? ⟨g, 9, none⟩ = some (.int .i64 (m1.y.hi)) := ((blk_facts HG1b.out).1 9).trans (by simp); have l9_HG1b : w5.frozen? ⟨g, 9, none⟩ = false := (blk_facts HG1b.out).2.1 9; have k10_HG1b : w5.cell? ⟨g, 10, none⟩ = some (.int .i64 (m1.z.lo)) := ((blk_facts HG1b.out).1 10).trans (by simp); have l10_HG1b : w5.frozen? ⟨g, 10, none⟩ = false := (blk_facts HG1b.out).2.1 10; have k11_HG1b : w5.cell? ⟨g, 11, none⟩ = some (.int .i64 (m1.z.hi)) := ((blk_facts HG1b.out).1 11).trans (by simp); have l11_HG1b : w5.frozen? ⟨g, 11, none⟩ = false := (blk_facts HG1b.out).2.1 11; have k12_HG1b : w5.cell? ⟨g, 12, none⟩ = some (.int .i64 (m2.x.lo)) := ((blk_facts HG1b.out).1 12).trans (by simp); have l12_HG1b : w5.frozen? ⟨g, 12, none⟩ = false := (blk_facts HG1b.out).2.1 12; have k13_HG1b : w5.cell? ⟨g, 13, none⟩ = some (.int .i64 (m2.x.hi)) := ((blk_facts HG1b.out).1 13).trans (by simp); have l13_HG1b : w5.frozen? ⟨g, 13, none⟩ = false := (blk_facts HG1b.out).2.1 13; have k14_HG1b : w5.cell? ⟨g, 14, none⟩ = some (.int .i64 (m2.y.lo)) := ((blk_facts HG1b.out).1 14).trans (by simp); have l14_HG1b : w5.frozen? ⟨g, 14, none⟩ = false := (blk_facts HG1b.out).2.1 14; have k15_HG1b : w5.cell? ⟨g, 15, none⟩ = some (.int .i64 (m2.y.hi)) := ((blk_facts HG1b.out).1 15).trans (by simp); have l15_HG1b : w5.frozen? ⟨g, 15, none⟩ = false := (blk_facts HG1b.out).2.1 15; have k16_HG1b : w5.cell? ⟨g, 16, none⟩ = some (.int .i64 (m2.z.lo)) := ((blk_facts HG1b.out).1 16).trans (by simp); have l16_HG1b : w5.frozen? ⟨g, 16, none⟩ = false := (blk_facts HG1b.out).2.1 16; have k17_HG1b : w5.cell? ⟨g, 17, none⟩ = some (.int .i64 (m2.z.hi)) := ((blk_facts HG1b.out).1 17).trans (by simp); have l17_HG1b : w5.frozen? ⟨g, 17, none⟩ = false := (blk_facts HG1b.out).2.1 17
  have z_HV1b : w.heap.size + 1 < w5.heap.size := heap_lt HV1b.out; have k0_HV1b : w5.cell? ⟨w.heap.size + 1, 0, none⟩ = some (.int .i64 (v.x.lo)) := ((blk_facts HV1b.out).1 0).trans (by simp); have l0_HV1b : w5.frozen? ⟨w.heap.size + 1, 0, none⟩ = false := (blk_facts HV1b.out).2.1 0; have k1_HV1b : w5.cell? ⟨w.heap.size + 1, 1, none⟩ = some (.int .i64 (v.x.hi)) := ((blk_facts HV1b.out).1 1).trans (by simp); have l1_HV1b : w5.frozen? ⟨w.heap.size + 1, 1, none⟩ = false := (blk_facts HV1b.out).2.1 1; have k2_HV1b : w5.cell? ⟨w.heap.size + 1, 2, none⟩ = some (.int .i64 (v.y.lo)) := ((blk_facts HV1b.out).1 2).trans (by simp); have l2_HV1b : w5.frozen? ⟨w.heap.size + 1, 2, none⟩ = false := (blk_facts HV1b.out).2.1 2; have k3_HV1b : w5.cell? ⟨w.heap.size + 1, 3, none⟩ = some (.int .i64 (v.y.hi)) := ((blk_facts HV1b.out).1 3).trans (by simp); have l3_HV1b : w5.frozen? ⟨w.heap.size + 1, 3, none⟩ = false := (blk_facts HV1b.out).2.1 3; have k4_HV1b : w5.cell? ⟨w.heap.size + 1, 4, none⟩ = some (.int .i64 (v.z.lo)) := ((blk_facts HV1b.out).1 4).trans (by simp); have l4_HV1b : w5.frozen? ⟨w.heap.size + 1, 4, none⟩ = false := (blk_facts HV1b.out).2.1 4; have k5_HV1b : w5.cell? ⟨w.heap.size + 1, 5, none⟩ = some (.int .i64 (v.z.hi)) := ((blk_facts HV1b.out).1 5).trans (by simp); have l5_HV1b : w5.frozen? ⟨w.heap.size + 1, 5, none⟩ = false := (blk_facts HV1b.out).2.1 5
  go_wp2_with fail
  refine (D2.out _).mono ?_
  rintro _ w6 ⟨rfl, b_w6⟩
  obtain ⟨c_w6, f_w6, z_w6⟩ := bfacts b_w6 (by first | (simp; rfl) | rfl)
  have bb2 : Below w5.heap.size w5 w6 := by (repeat' (first | with_reducible exact Below.refl _ _ | with_reducible refine Below.setCell ?_ ?_ _ | with_reducible refine Below.drew ?_ | with_reducible refine below_drewN ?_ _ | with_reducible refine Below.alloc ?_ ?_ _ | with_reducible refine below_step b_w6 ?_ ?_ | omega | (simp; done) | (simp; omega)))
  have ho2a := Lib.hid (own_below HO1b.out bb2)
  have hg2a := Lib.hid (heap_below HG1b.out bb2)
  have hv2a := Lib.hid (heap_below HV1b.out bb2)
  have zz2 := bb2.size
  have hb2a := Lib.hid (HB1b.out.trans (bb2.mono (by omega)))
  clear bb2 b_w6
  go_wp2_with (at_builtin; refine wpList_append_own _ rfl _ _ 117 rfl (w.heap.size + 2) 34 i0 (.agg #[.int .i64 0, .int .i64 0]) 2 16 Tryz.underlying117 HI.out HZ0.out HZ1.out HZ2.out rfl (by decide) _ _ _ rfl (ho2a.out.alloc _) ⟨w6.heap.size, 0, none⟩ 1 1 [.int .i64 q2.lo, .int .i64 q2.hi] rfl rfl ?c1 ?c2 ?c3 ?c4 ?c5 ?_)
  case c1 => exact two_cells
  case c2 => exact two_ints
  case c3 => unfold maxLen; omega
  case c4 => omega
  case c5 => simp; omega
  intro v2 w7 ho2' hgrow2 _
  have hown2 := ho2a.out.alloc (.cells #[.int .i64 q2.lo, .int .i64 q2.hi] 34)
  have HG2b := Lib.hid (heap_grown hown2 hgrow2 (heap_alloc hg2a.out) (by decide))
  have HV2b := Lib.hid (heap_grown hown2 hgrow2 (heap_alloc hv2a.out) (by decide))
  have HB2b := Lib.hid ((hb2a.out.trans (Below.alloc (Below.refl _ _) (by omega) _)).trans ((below_grown hown2 hgrow2 (by simp; omega)).mono (by omega)))
  have zb2 := hgrow2.size
  simp at zb2
  have HO2b := Lib.hid ho2'
  clear ho2' hgrow2 hown2
  go_wp2_with fail
  rw [rounds_succ]
  go_wp2_with fail
  obtain ⟨gr, cap, rfl, hr1, hr2, hr3, hr4, hr5⟩ := own_open2 HO2b.out (by omega)
  go_ret
  exact ⟨gr, cap, rfl, by omega, hr2, ⟨hr5 0 _ rfl, hr5 1 _ rfl, hr5 2 _ rfl, hr5 3 _ rfl, hr5 4 _ rfl, hr5 5 _ rfl⟩, HB2b.out⟩

set_option maxHeartbeats 4000000 in
theorem ShadowPlace_dark (h az sl : Int) (v : V3) (w : World) (h0 : 1 ≤ h) (h1 : h ≤ 10000) (z0 : 0 ≤ az) (z1 : az ≤ 1295999) (y0 : -324000 ≤ sl) (y1 : sl ≤ 324000) (a0 : -3000000 ≤ v.x.lo) (a1 : v.x.lo ≤ v.x.hi) (a2 : v.x.hi ≤ 3000000) (b0 : -3000000 ≤ v.y.lo) (b1 : v.y.lo ≤ v.y.hi) (b2 : v.y.hi ≤ 3000000) (c0 : -3000000 ≤ v.z.lo) (c1 : v.z.lo ≤ v.z.hi) (c2 : v.z.hi ≤ 3000000) (k : ¬ 0 < (paV az sl v).z.lo) :
    Calls Tryz.prog 112 #[(.agg #[.int .i64 (az), .int .i64 (sl)]), .int .i64 h, (.agg #[.int .i64 (v.x.lo), .int .i64 (v.x.hi), .int .i64 (v.y.lo), .int .i64 (v.y.hi), .int .i64 (v.z.lo), .int .i64 (v.z.hi)])] w fun e w' => e = .returned (.tuple #[(.agg #[.int .i64 (0), .int .i64 (0), .int .i64 (0), .int .i64 (0)]), .int .i64 5]) ∧ Below w.heap.size w w' := by
  obtain ⟨p1, p2, p3, p4, p5, p6, p7, p8, p9⟩ := paV_bd' az sl a0 a1 a2 b0 b1 b2 c0 c1 c2
  have ve := veB_small a0 a1 a2 b0 b1 b2 c0 c1 c2
  have pa := fun w => parts_any az sl v w z0 z1 y0 y1 a0 a1 a2 b0 b1 b2 c0 c1 c2
  have wa : waB az sl = true := by unfold waB; rw [inB_t z0 z1, inB_t y0 y1]; rfl
  have he : heB h = true := inB_t h0 h1
  generalize paV az sl v = p at pa k p1 p2 p3 p4 p5 p6 p7 p8 p9
  have PA := Lib.hid pa; clear pa
  go_enter Tryz.func112, Tryz.ntmps112
  go_wp2_with fail
  refine (IsWall_any az sl _).mono ?_
  rintro _ w1 ⟨rfl, b_w1⟩
  obtain ⟨c_w1, f_w1, z_w1⟩ := bfacts b_w1 (by first | (simp; rfl) | rfl)
  have y0_w1 : w.heap.size < w1.heap.size := (by omega)
  have y1_w1 : w.heap.size + 1 < w1.heap.size := (by omega)
  have y2_w1 : w.heap.size + 1 + 1 < w1.heap.size := (by omega)
  have k0_0_w1 : w1.cell? ⟨w.heap.size, 0, none⟩ = some (.int .i64 (az)) := (by first | exact (c_w1 _ _ (by omega)).trans (by go_simp) | go_simp)
  have l0_0_w1 : w1.frozen? ⟨w.heap.size, 0, none⟩ = false := (by first | exact (f_w1 _ _ (by omega)).trans (by go_simp) | go_simp)
  have k0_1_w1 : w1.cell? ⟨w.heap.size, 1, none⟩ = some (.int .i64 (sl)) := (by first | exact (c_w1 _ _ (by omega)).trans (by go_simp) | go_simp)
  have l0_1_w1 : w1.frozen? ⟨w.heap.size, 1, none⟩ = false := (by first | exact (f_w1 _ _ (by omega)).trans (by go_simp) | go_simp)
  have k1_0_w1 : w1.cell? ⟨w.heap.size + 1, 0, none⟩ = some (.int .i64 (v.x.lo)) := (by first | exact (c_w1 _ _ (by omega)).trans (by go_simp) | go_simp)
  have l1_0_w1 : w1.frozen? ⟨w.heap.size + 1, 0, none⟩ = false := (by first | exact (f_w1 _ _ (by omega)).trans (by go_simp) | go_simp)
  have k1_1_w1 : w1.cell? ⟨w.heap.size + 1, 1, none⟩ = some (.int .i64 (v.x.hi)) := (by first | exact (c_w1 _ _ (by omega)).trans (by go_simp) | go_simp)
  have l1_1_w1 : w1.frozen? ⟨w.heap.size + 1, 1, none⟩ = false := (by first | exact (f_w1 _ _ (by omega)).trans (by go_simp) | go_simp)
  have k1_2_w1 : w1.cell? ⟨w.heap.size + 1, 2, none⟩ = some (.int .i64 (v.y.lo)) := (by first | exact (c_w1 _ _ (by omega)).trans (by go_simp) | go_simp)
  have l1_2_w1 : w1.frozen? ⟨w.heap.size + 1, 2, none⟩ = false := (by first | exact (f_w1 _ _ (by omega)).trans (by go_simp) | go_simp)
  have k1_3_w1 : w1.cell? ⟨w.heap.size + 1, 3, none⟩ = some (.int .i64 (v.y.hi)) := (by first | exact (c_w1 _ _ (by omega)).trans (by go_simp) | go_simp)
  have l1_3_w1 : w1.frozen? ⟨w.heap.size + 1, 3, none⟩ = false := (by first | exact (f_w1 _ _ (by omega)).trans (by go_simp) | go_simp)
  have k1_4_w1 : w1.cell? ⟨w.heap.size + 1, 4, none⟩ = some (.int .i64 (v.z.lo)) := (by first | exact (c_w1 _ _ (by omega)).trans (by go_simp) | go_simp)
  have l1_4_w1 : w1.frozen? ⟨w.heap.size + 1, 4, none⟩ = false := (by first | exact (f_w1 _ _ (by omega)).trans (by go_simp) | go_simp)
  have k1_5_w1 : w1.cell? ⟨w.heap.size + 1, 5, none⟩ = some (.int .i64 (v.z.hi)) := (by first | exact (c_w1 _ _ (by omega)).trans (by go_simp) | go_simp)
  have l1_5_w1 : w1.frozen? ⟨w.heap.size + 1, 5, none⟩ = false := (by first | exact (f_w1 _ _ (by omega)).trans (by go_simp) | go_simp)
  have k2_0_w1 : w1.cell? ⟨w.heap.size + 1 + 1, 0, none⟩ = some (.int .i64 (0)) := (by first | exact (c_w1 _ _ (by omega)).trans (by go_simp) | go_simp)
  have l2_0_w1 : w1.frozen? ⟨w.heap.size + 1 + 1, 0, none⟩ = false := (by first | exact (f_w1 _ _ (by omega)).trans (by go_simp) | go_simp)
  have k2_1_w1 : w1.cell? ⟨w.heap.size + 1 + 1, 1, none⟩ = some (.int .i64 (0)) := (by first | exact (c_w1 _ _ (by omega)).trans (by go_simp) | go_simp)
  have l2_1_w1 : w1.frozen? ⟨w.heap.size + 1 + 1, 1, none⟩ = false := (by first | exact (f_w1 _ _ (by omega)).trans (by go_simp) | go_simp)
  have k2_2_w1 : w1.cell? ⟨w.heap.size + 1 + 1, 2, none⟩ = some (.int .i64 (0)) := (by first | exact (c_w1 _ _ (by omega)).trans (by go_simp) | go_simp)
  have l2_2_w1 : w1.frozen? ⟨w.heap.size + 1 + 1, 2, none⟩ = false := (by first | exact (f_w1 _ _ (by omega)).trans (by go_simp) | go_simp)
  have k2_3_w1 : w1.cell? ⟨w.heap.size + 1 + 1, 3, none⟩ = some (.int .i64 (0)) := (by first | exact (c_w1 _ _ (by omega)).trans (by go_simp) | go_simp)
  have l2_3_w1 : w1.frozen? ⟨w.heap.size + 1 + 1, 3, none⟩ = false := (by first | exact (f_w1 _ _ (by omega)).trans (by go_simp) | go_simp)
  clear c_w1 f_w1
  go_wp2_with fail
  refine (IsVector_any _ _ _ _ _ _ _).mono ?_
  rintro _ w2 ⟨rfl, b_w2⟩
  obtain ⟨c_w2, f_w2, z_w2⟩ := bfacts b_w2 (by first | (simp; rfl) | rfl)
  have y0_w2 : w.heap.size < w2.heap.size := (by omega)
  have y1_w2 : w.heap.size + 1 < w2.heap.size := (by omega)
  have y2_w2 : w.heap.size + 1 + 1 < w2.heap.size := (by omega)
  have k0_0_w2 : w2.cell? ⟨w.heap.size, 0, none⟩ = some (.int .i64 (az)) := (by first | exact (c_w2 _ _ (by omega)).trans (by go_simp) | go_simp)
  have l0_0_w2 : w2.frozen? ⟨w.heap.size, 0, none⟩ = false := (by first | exact (f_w2 _ _ (by omega)).trans (by go_simp) | go_simp)
  have k0_1_w2 : w2.cell? ⟨w.heap.size, 1, none⟩ = some (.int .i64 (sl)) := (by first | exact (c_w2 _ _ (by omega)).trans (by go_simp) | go_simp)
  have l0_1_w2 : w2.frozen? ⟨w.heap.size, 1, none⟩ = false := (by first | exact (f_w2 _ _ (by omega)).trans (by go_simp) | go_simp)
  have k1_0_w2 : w2.cell? ⟨w.heap.size + 1, 0, none⟩ = some (.int .i64 (v.x.lo)) := (by first | exact (c_w2 _ _ (by omega)).trans (by go_simp) | go_simp)
  have l1_0_w2 : w2.frozen? ⟨w.heap.size + 1, 0, none⟩ = false := (by first | exact (f_w2 _ _ (by omega)).trans (by go_simp) | go_simp)
  have k1_1_w2 : w2.cell? ⟨w.heap.size + 1, 1, none⟩ = some (.int .i64 (v.x.hi)) := (by first | exact (c_w2 _ _ (by omega)).trans (by go_simp) | go_simp)
  have l1_1_w2 : w2.frozen? ⟨w.heap.size + 1, 1, none⟩ = false := (by first | exact (f_w2 _ _ (by omega)).trans (by go_simp) | go_simp)
  have k1_2_w2 : w2.cell? ⟨w.heap.size + 1, 2, none⟩ = some (.int .i64 (v.y.lo)) := (by first | exact (c_w2 _ _ (by omega)).trans (by go_simp) | go_simp)
  have l1_2_w2 : w2.frozen? ⟨w.heap.size + 1, 2, none⟩ = false := (by first | exact (f_w2 _ _ (by omega)).trans (by go_simp) | go_simp)
  have k1_3_w2 : w2.cell? ⟨w.heap.size + 1, 3, none⟩ = some (.int .i64 (v.y.hi)) := (by first | exact (c_w2 _ _ (by omega)).trans (by go_simp) | go_simp)
  have l1_3_w2 : w2.frozen? ⟨w.heap.size + 1, 3, none⟩ = false := (by first | exact (f_w2 _ _ (by omega)).trans (by go_simp) | go_simp)
  have k1_4_w2 : w2.cell? ⟨w.heap.size + 1, 4, none⟩ = some (.int .i64 (v.z.lo)) := (by first | exact (c_w2 _ _ (by omega)).trans (by go_simp) | go_simp)
  have l1_4_w2 : w2.frozen? ⟨w.heap.size + 1, 4, none⟩ = false := (by first | exact (f_w2 _ _ (by omega)).trans (by go_simp) | go_simp)
  have k1_5_w2 : w2.cell? ⟨w.heap.size + 1, 5, none⟩ = some (.int .i64 (v.z.hi)) := (by first | exact (c_w2 _ _ (by omega)).trans (by go_simp) | go_simp)
  have l1_5_w2 : w2.frozen? ⟨w.heap.size + 1, 5, none⟩ = false := (by first | exact (f_w2 _ _ (by omega)).trans (by go_simp) | go_simp)
  have k2_0_w2 : w2.cell? ⟨w.heap.size + 1 + 1, 0, none⟩ = some (.int .i64 (0)) := (by first | exact (c_w2 _ _ (by omega)).trans (by go_simp) | go_simp)
  have l2_0_w2 : w2.frozen? ⟨w.heap.size + 1 + 1, 0, none⟩ = false := (by first | exact (f_w2 _ _ (by omega)).trans (by go_simp) | go_simp)
  have k2_1_w2 : w2.cell? ⟨w.heap.size + 1 + 1, 1, none⟩ = some (.int .i64 (0)) := (by first | exact (c_w2 _ _ (by omega)).trans (by go_simp) | go_simp)
  have l2_1_w2 : w2.frozen? ⟨w.heap.size + 1 + 1, 1, none⟩ = false := (by first | exact (f_w2 _ _ (by omega)).trans (by go_simp) | go_simp)
  have k2_2_w2 : w2.cell? ⟨w.heap.size + 1 + 1, 2, none⟩ = some (.int .i64 (0)) := (by first | exact (c_w2 _ _ (by omega)).trans (by go_simp) | go_simp)
  have l2_2_w2 : w2.frozen? ⟨w.heap.size + 1 + 1, 2, none⟩ = false := (by first | exact (f_w2 _ _ (by omega)).trans (by go_simp) | go_simp)
  have k2_3_w2 : w2.cell? ⟨w.heap.size + 1 + 1, 3, none⟩ = some (.int .i64 (0)) := (by first | exact (c_w2 _ _ (by omega)).trans (by go_simp) | go_simp)
  have l2_3_w2 : w2.frozen? ⟨w.heap.size + 1 + 1, 3, none⟩ = false := (by first | exact (f_w2 _ _ (by omega)).trans (by go_simp) | go_simp)
  clear c_w2 f_w2
  go_wp2_with (go_at_call 143; refine (isHeight_any _ _).mono ?_; rintro e w' ⟨rfl, rfl⟩)
  refine (PA.out _).mono ?_
  rintro _ w3 ⟨g, cap, rfl, hg1, hg2, ⟨k0, k1, k2, k3, k4, k5⟩, b_w3⟩
  obtain ⟨c_w3, f_w3, z_w3⟩ := bfacts b_w3 (by first | (simp; rfl) | rfl); have y0_w3 : w.heap.size + 1 + 1 < w3.heap.size := (by omega); have yb0_w3 : w.heap.size + 1 < w3.heap.size := (by omega); have yb1_w3 : w.heap.size < w3.heap.size := (by omega); have k0_0_w3 : w3.cell? ⟨w.heap.size + 1 + 1, 0, none⟩ = some (.int .i64 (0)) := (by first | exact (c_w3 _ _ (by omega)).trans (by go_simp) | go_simp); have l0_0_w3 : w3.frozen? ⟨w.heap.size + 1 + 1, 0, none⟩ = false := (by first | exact (f_w3 _ _ (by omega)).trans (by go_simp) | go_simp); have k0_1_w3 : w3.cell? ⟨w.heap.size + 1 + 1, 1, none⟩ = some (.int .i64 (0)) := (by first | exact (c_w3 _ _ (by omega)).trans (by go_simp) | go_simp); have l0_1_w3 : w3.frozen? ⟨w.heap.size + 1 + 1, 1, none⟩ = false := (by first | exact (f_w3 _ _ (by omega)).trans (by go_simp) | go_simp); have k0_2_w3 : w3.cell? ⟨w.heap.size + 1 + 1, 2, none⟩ = some (.int .i64 (0)) := (by first | exact (c_w3 _ _ (by omega)).trans (by go_simp) | go_simp); have l0_2_w3 : w3.frozen? ⟨w.heap.size + 1 + 1, 2, none⟩ = false := (by first | exact (f_w3 _ _ (by omega)).trans (by go_simp) | go_simp); have k0_3_w3 : w3.cell? ⟨w.heap.size + 1 + 1, 3, none⟩ = some (.int .i64 (0)) := (by first | exact (c_w3 _ _ (by omega)).trans (by go_simp) | go_simp); have l0_3_w3 : w3.frozen? ⟨w.heap.size + 1 + 1, 3, none⟩ = false := (by first | exact (f_w3 _ _ (by omega)).trans (by go_simp) | go_simp); clear c_w3 f_w3
  have hgw : w.heap.size + 2 < g := by omega
  go_wp2
  exact bodyPost_ret (v := .tuple #[(.agg #[.int .i64 (0), .int .i64 (0), .int .i64 (0), .int .i64 (0)]), .int .i64 5]) (by simp [results, Tryz.results112, go_sem, *]) rfl ⟨rfl, by (repeat' (first | with_reducible exact Below.refl _ _ | with_reducible refine Below.setCell ?_ ?_ _ | with_reducible refine Below.drew ?_ | with_reducible refine below_drewN ?_ _ | with_reducible refine Below.alloc ?_ ?_ _ | with_reducible refine below_step b_w3 ?_ ?_ | with_reducible refine below_step b_w2 ?_ ?_ | with_reducible refine below_step b_w1 ?_ ?_ | omega | (simp; done) | (simp; omega)))⟩
set_option maxHeartbeats 4000000 in
theorem ShadowPlace_no (h az sl : Int) (v : V3) (w : World) (h0 : 1 ≤ h) (h1 : h ≤ 10000) (z0 : 0 ≤ az) (z1 : az ≤ 1295999) (y0 : -324000 ≤ sl) (y1 : sl ≤ 324000) (a0 : -3000000 ≤ v.x.lo) (a1 : v.x.lo ≤ v.x.hi) (a2 : v.x.hi ≤ 3000000) (b0 : -3000000 ≤ v.y.lo) (b1 : v.y.lo ≤ v.y.hi) (b2 : v.y.hi ≤ 3000000) (c0 : -3000000 ≤ v.z.lo) (c1 : v.z.lo ≤ v.z.hi) (c2 : v.z.hi ≤ 3000000) (k : 0 < (paV az sl v).z.lo) (q : plB (spP h (paV az sl v)) = false) :
    Calls Tryz.prog 112 #[(.agg #[.int .i64 (az), .int .i64 (sl)]), .int .i64 h, (.agg #[.int .i64 (v.x.lo), .int .i64 (v.x.hi), .int .i64 (v.y.lo), .int .i64 (v.y.hi), .int .i64 (v.z.lo), .int .i64 (v.z.hi)])] w fun e w' => e = .returned (.tuple #[(.agg #[.int .i64 (0), .int .i64 (0), .int .i64 (0), .int .i64 (0)]), .int .i64 3]) ∧ Below w.heap.size w w' := by
  obtain ⟨p1, p2, p3, p4, p5, p6, p7, p8, p9⟩ := paV_bd' az sl a0 a1 a2 b0 b1 b2 c0 c1 c2
  have ve := veB_small a0 a1 a2 b0 b1 b2 c0 c1 c2
  have pa := fun w => parts_any az sl v w z0 z1 y0 y1 a0 a1 a2 b0 b1 b2 c0 c1 c2
  have wa : waB az sl = true := by unfold waB; rw [inB_t z0 z1, inB_t y0 y1]; rfl
  have he : heB h = true := inB_t h0 h1
  generalize paV az sl v = p at pa k q p1 p2 p3 p4 p5 p6 p7 p8 p9
  have po := fun g cap w hg e0 e1 e2 e3 e4 e5 => placeOf_no h p g cap w hg h0 h1 p1 p2 p3 p4 p5 p6 k p8 p9 e0 e1 e2 e3 e4 e5 q
  have PA := Lib.hid pa; have PO := Lib.hid po; clear pa po q
  go_enter Tryz.func112, Tryz.ntmps112
  go_wp2_with fail
  refine (IsWall_any az sl _).mono ?_
  rintro _ w1 ⟨rfl, b_w1⟩
  obtain ⟨c_w1, f_w1, z_w1⟩ := bfacts b_w1 (by first | (simp; rfl) | rfl)
  have y0_w1 : w.heap.size < w1.heap.size := (by omega)
  have y1_w1 : w.heap.size + 1 < w1.heap.size := (by omega)
  have y2_w1 : w.heap.size + 1 + 1 < w1.heap.size := (by omega)
  have k0_0_w1 : w1.cell? ⟨w.heap.size, 0, none⟩ = some (.int .i64 (az)) := (by first | exact (c_w1 _ _ (by omega)).trans (by go_simp) | go_simp)
  have l0_0_w1 : w1.frozen? ⟨w.heap.size, 0, none⟩ = false := (by first | exact (f_w1 _ _ (by omega)).trans (by go_simp) | go_simp)
  have k0_1_w1 : w1.cell? ⟨w.heap.size, 1, none⟩ = some (.int .i64 (sl)) := (by first | exact (c_w1 _ _ (by omega)).trans (by go_simp) | go_simp)
  have l0_1_w1 : w1.frozen? ⟨w.heap.size, 1, none⟩ = false := (by first | exact (f_w1 _ _ (by omega)).trans (by go_simp) | go_simp)
  have k1_0_w1 : w1.cell? ⟨w.heap.size + 1, 0, none⟩ = some (.int .i64 (v.x.lo)) := (by first | exact (c_w1 _ _ (by omega)).trans (by go_simp) | go_simp)
  have l1_0_w1 : w1.frozen? ⟨w.heap.size + 1, 0, none⟩ = false := (by first | exact (f_w1 _ _ (by omega)).trans (by go_simp) | go_simp)
  have k1_1_w1 : w1.cell? ⟨w.heap.size + 1, 1, none⟩ = some (.int .i64 (v.x.hi)) := (by first | exact (c_w1 _ _ (by omega)).trans (by go_simp) | go_simp)
  have l1_1_w1 : w1.frozen? ⟨w.heap.size + 1, 1, none⟩ = false := (by first | exact (f_w1 _ _ (by omega)).trans (by go_simp) | go_simp)
  have k1_2_w1 : w1.cell? ⟨w.heap.size + 1, 2, none⟩ = some (.int .i64 (v.y.lo)) := (by first | exact (c_w1 _ _ (by omega)).trans (by go_simp) | go_simp)
  have l1_2_w1 : w1.frozen? ⟨w.heap.size + 1, 2, none⟩ = false := (by first | exact (f_w1 _ _ (by omega)).trans (by go_simp) | go_simp)
  have k1_3_w1 : w1.cell? ⟨w.heap.size + 1, 3, none⟩ = some (.int .i64 (v.y.hi)) := (by first | exact (c_w1 _ _ (by omega)).trans (by go_simp) | go_simp)
  have l1_3_w1 : w1.frozen? ⟨w.heap.size + 1, 3, none⟩ = false := (by first | exact (f_w1 _ _ (by omega)).trans (by go_simp) | go_simp)
  have k1_4_w1 : w1.cell? ⟨w.heap.size + 1, 4, none⟩ = some (.int .i64 (v.z.lo)) := (by first | exact (c_w1 _ _ (by omega)).trans (by go_simp) | go_simp)
  have l1_4_w1 : w1.frozen? ⟨w.heap.size + 1, 4, none⟩ = false := (by first | exact (f_w1 _ _ (by omega)).trans (by go_simp) | go_simp)
  have k1_5_w1 : w1.cell? ⟨w.heap.size + 1, 5, none⟩ = some (.int .i64 (v.z.hi)) := (by first | exact (c_w1 _ _ (by omega)).trans (by go_simp) | go_simp)
  have l1_5_w1 : w1.frozen? ⟨w.heap.size + 1, 5, none⟩ = false := (by first | exact (f_w1 _ _ (by omega)).trans (by go_simp) | go_simp)
  have k2_0_w1 : w1.cell? ⟨w.heap.size + 1 + 1, 0, none⟩ = some (.int .i64 (0)) := (by first | exact (c_w1 _ _ (by omega)).trans (by go_simp) | go_simp)
  have l2_0_w1 : w1.frozen? ⟨w.heap.size + 1 + 1, 0, none⟩ = false := (by first | exact (f_w1 _ _ (by omega)).trans (by go_simp) | go_simp)
  have k2_1_w1 : w1.cell? ⟨w.heap.size + 1 + 1, 1, none⟩ = some (.int .i64 (0)) := (by first | exact (c_w1 _ _ (by omega)).trans (by go_simp) | go_simp)
  have l2_1_w1 : w1.frozen? ⟨w.heap.size + 1 + 1, 1, none⟩ = false := (by first | exact (f_w1 _ _ (by omega)).trans (by go_simp) | go_simp)
  have k2_2_w1 : w1.cell? ⟨w.heap.size + 1 + 1, 2, none⟩ = some (.int .i64 (0)) := (by first | exact (c_w1 _ _ (by omega)).trans (by go_simp) | go_simp)
  have l2_2_w1 : w1.frozen? ⟨w.heap.size + 1 + 1, 2, none⟩ = false := (by first | exact (f_w1 _ _ (by omega)).trans (by go_simp) | go_simp)
  have k2_3_w1 : w1.cell? ⟨w.heap.size + 1 + 1, 3, none⟩ = some (.int .i64 (0)) := (by first | exact (c_w1 _ _ (by omega)).trans (by go_simp) | go_simp)
  have l2_3_w1 : w1.frozen? ⟨w.heap.size + 1 + 1, 3, none⟩ = false := (by first | exact (f_w1 _ _ (by omega)).trans (by go_simp) | go_simp)
  clear c_w1 f_w1
  go_wp2_with fail
  refine (IsVector_any _ _ _ _ _ _ _).mono ?_
  rintro _ w2 ⟨rfl, b_w2⟩
  obtain ⟨c_w2, f_w2, z_w2⟩ := bfacts b_w2 (by first | (simp; rfl) | rfl)
  have y0_w2 : w.heap.size < w2.heap.size := (by omega)
  have y1_w2 : w.heap.size + 1 < w2.heap.size := (by omega)
  have y2_w2 : w.heap.size + 1 + 1 < w2.heap.size := (by omega)
  have k0_0_w2 : w2.cell? ⟨w.heap.size, 0, none⟩ = some (.int .i64 (az)) := (by first | exact (c_w2 _ _ (by omega)).trans (by go_simp) | go_simp)
  have l0_0_w2 : w2.frozen? ⟨w.heap.size, 0, none⟩ = false := (by first | exact (f_w2 _ _ (by omega)).trans (by go_simp) | go_simp)
  have k0_1_w2 : w2.cell? ⟨w.heap.size, 1, none⟩ = some (.int .i64 (sl)) := (by first | exact (c_w2 _ _ (by omega)).trans (by go_simp) | go_simp)
  have l0_1_w2 : w2.frozen? ⟨w.heap.size, 1, none⟩ = false := (by first | exact (f_w2 _ _ (by omega)).trans (by go_simp) | go_simp)
  have k1_0_w2 : w2.cell? ⟨w.heap.size + 1, 0, none⟩ = some (.int .i64 (v.x.lo)) := (by first | exact (c_w2 _ _ (by omega)).trans (by go_simp) | go_simp)
  have l1_0_w2 : w2.frozen? ⟨w.heap.size + 1, 0, none⟩ = false := (by first | exact (f_w2 _ _ (by omega)).trans (by go_simp) | go_simp)
  have k1_1_w2 : w2.cell? ⟨w.heap.size + 1, 1, none⟩ = some (.int .i64 (v.x.hi)) := (by first | exact (c_w2 _ _ (by omega)).trans (by go_simp) | go_simp)
  have l1_1_w2 : w2.frozen? ⟨w.heap.size + 1, 1, none⟩ = false := (by first | exact (f_w2 _ _ (by omega)).trans (by go_simp) | go_simp)
  have k1_2_w2 : w2.cell? ⟨w.heap.size + 1, 2, none⟩ = some (.int .i64 (v.y.lo)) := (by first | exact (c_w2 _ _ (by omega)).trans (by go_simp) | go_simp)
  have l1_2_w2 : w2.frozen? ⟨w.heap.size + 1, 2, none⟩ = false := (by first | exact (f_w2 _ _ (by omega)).trans (by go_simp) | go_simp)
  have k1_3_w2 : w2.cell? ⟨w.heap.size + 1, 3, none⟩ = some (.int .i64 (v.y.hi)) := (by first | exact (c_w2 _ _ (by omega)).trans (by go_simp) | go_simp)
  have l1_3_w2 : w2.frozen? ⟨w.heap.size + 1, 3, none⟩ = false := (by first | exact (f_w2 _ _ (by omega)).trans (by go_simp) | go_simp)
  have k1_4_w2 : w2.cell? ⟨w.heap.size + 1, 4, none⟩ = some (.int .i64 (v.z.lo)) := (by first | exact (c_w2 _ _ (by omega)).trans (by go_simp) | go_simp)
  have l1_4_w2 : w2.frozen? ⟨w.heap.size + 1, 4, none⟩ = false := (by first | exact (f_w2 _ _ (by omega)).trans (by go_simp) | go_simp)
  have k1_5_w2 : w2.cell? ⟨w.heap.size + 1, 5, none⟩ = some (.int .i64 (v.z.hi)) := (by first | exact (c_w2 _ _ (by omega)).trans (by go_simp) | go_simp)
  have l1_5_w2 : w2.frozen? ⟨w.heap.size + 1, 5, none⟩ = false := (by first | exact (f_w2 _ _ (by omega)).trans (by go_simp) | go_simp)
  have k2_0_w2 : w2.cell? ⟨w.heap.size + 1 + 1, 0, none⟩ = some (.int .i64 (0)) := (by first | exact (c_w2 _ _ (by omega)).trans (by go_simp) | go_simp)
  have l2_0_w2 : w2.frozen? ⟨w.heap.size + 1 + 1, 0, none⟩ = false := (by first | exact (f_w2 _ _ (by omega)).trans (by go_simp) | go_simp)
  have k2_1_w2 : w2.cell? ⟨w.heap.size + 1 + 1, 1, none⟩ = some (.int .i64 (0)) := (by first | exact (c_w2 _ _ (by omega)).trans (by go_simp) | go_simp)
  have l2_1_w2 : w2.frozen? ⟨w.heap.size + 1 + 1, 1, none⟩ = false := (by first | exact (f_w2 _ _ (by omega)).trans (by go_simp) | go_simp)
  have k2_2_w2 : w2.cell? ⟨w.heap.size + 1 + 1, 2, none⟩ = some (.int .i64 (0)) := (by first | exact (c_w2 _ _ (by omega)).trans (by go_simp) | go_simp)
  have l2_2_w2 : w2.frozen? ⟨w.heap.size + 1 + 1, 2, none⟩ = false := (by first | exact (f_w2 _ _ (by omega)).trans (by go_simp) | go_simp)
  have k2_3_w2 : w2.cell? ⟨w.heap.size + 1 + 1, 3, none⟩ = some (.int .i64 (0)) := (by first | exact (c_w2 _ _ (by omega)).trans (by go_simp) | go_simp)
  have l2_3_w2 : w2.frozen? ⟨w.heap.size + 1 + 1, 3, none⟩ = false := (by first | exact (f_w2 _ _ (by omega)).trans (by go_simp) | go_simp)
  clear c_w2 f_w2
  go_wp2_with (go_at_call 143; refine (isHeight_any _ _).mono ?_; rintro e w' ⟨rfl, rfl⟩)
  refine (PA.out _).mono ?_
  rintro _ w3 ⟨g, cap, rfl, hg1, hg2, ⟨k0, k1, k2, k3, k4, k5⟩, b_w3⟩
  obtain ⟨c_w3, f_w3, z_w3⟩ := bfacts b_w3 (by first | (simp; rfl) | rfl); have y0_w3 : w.heap.size + 1 + 1 < w3.heap.size := (by omega); have yb0_w3 : w.heap.size + 1 < w3.heap.size := (by omega); have yb1_w3 : w.heap.size < w3.heap.size := (by omega); have k0_0_w3 : w3.cell? ⟨w.heap.size + 1 + 1, 0, none⟩ = some (.int .i64 (0)) := (by first | exact (c_w3 _ _ (by omega)).trans (by go_simp) | go_simp); have l0_0_w3 : w3.frozen? ⟨w.heap.size + 1 + 1, 0, none⟩ = false := (by first | exact (f_w3 _ _ (by omega)).trans (by go_simp) | go_simp); have k0_1_w3 : w3.cell? ⟨w.heap.size + 1 + 1, 1, none⟩ = some (.int .i64 (0)) := (by first | exact (c_w3 _ _ (by omega)).trans (by go_simp) | go_simp); have l0_1_w3 : w3.frozen? ⟨w.heap.size + 1 + 1, 1, none⟩ = false := (by first | exact (f_w3 _ _ (by omega)).trans (by go_simp) | go_simp); have k0_2_w3 : w3.cell? ⟨w.heap.size + 1 + 1, 2, none⟩ = some (.int .i64 (0)) := (by first | exact (c_w3 _ _ (by omega)).trans (by go_simp) | go_simp); have l0_2_w3 : w3.frozen? ⟨w.heap.size + 1 + 1, 2, none⟩ = false := (by first | exact (f_w3 _ _ (by omega)).trans (by go_simp) | go_simp); have k0_3_w3 : w3.cell? ⟨w.heap.size + 1 + 1, 3, none⟩ = some (.int .i64 (0)) := (by first | exact (c_w3 _ _ (by omega)).trans (by go_simp) | go_simp); have l0_3_w3 : w3.frozen? ⟨w.heap.size + 1 + 1, 3, none⟩ = false := (by first | exact (f_w3 _ _ (by omega)).trans (by go_simp) | go_simp); clear c_w3 f_w3
  have hgw : w.heap.size + 2 < g := by omega
  go_wp2_with fail
  refine (PO.out g cap _ hg2 k0 k1 k2 k3 k4 k5).mono ?_
  rintro _ w4 ⟨rfl, b_w4⟩
  obtain ⟨c_w4, f_w4, z_w4⟩ := bfacts b_w4 (by first | (simp; rfl) | rfl)
  have y0_w4 : w.heap.size + 1 + 1 < w4.heap.size := (by omega)
  have yb0_w4 : w.heap.size + 1 < w4.heap.size := (by omega)
  have yb1_w4 : w.heap.size < w4.heap.size := (by omega)
  have k0_0_w4 : w4.cell? ⟨w.heap.size + 1 + 1, 0, none⟩ = some (.int .i64 (0)) := (by first | exact (c_w4 _ _ (by omega)).trans (by go_simp) | go_simp)
  have l0_0_w4 : w4.frozen? ⟨w.heap.size + 1 + 1, 0, none⟩ = false := (by first | exact (f_w4 _ _ (by omega)).trans (by go_simp) | go_simp)
  have k0_1_w4 : w4.cell? ⟨w.heap.size + 1 + 1, 1, none⟩ = some (.int .i64 (0)) := (by first | exact (c_w4 _ _ (by omega)).trans (by go_simp) | go_simp)
  have l0_1_w4 : w4.frozen? ⟨w.heap.size + 1 + 1, 1, none⟩ = false := (by first | exact (f_w4 _ _ (by omega)).trans (by go_simp) | go_simp)
  have k0_2_w4 : w4.cell? ⟨w.heap.size + 1 + 1, 2, none⟩ = some (.int .i64 (0)) := (by first | exact (c_w4 _ _ (by omega)).trans (by go_simp) | go_simp)
  have l0_2_w4 : w4.frozen? ⟨w.heap.size + 1 + 1, 2, none⟩ = false := (by first | exact (f_w4 _ _ (by omega)).trans (by go_simp) | go_simp)
  have k0_3_w4 : w4.cell? ⟨w.heap.size + 1 + 1, 3, none⟩ = some (.int .i64 (0)) := (by first | exact (c_w4 _ _ (by omega)).trans (by go_simp) | go_simp)
  have l0_3_w4 : w4.frozen? ⟨w.heap.size + 1 + 1, 3, none⟩ = false := (by first | exact (f_w4 _ _ (by omega)).trans (by go_simp) | go_simp)
  clear c_w4 f_w4
  go_wp2
  exact bodyPost_ret (v := .tuple #[(.agg #[.int .i64 (0), .int .i64 (0), .int .i64 (0), .int .i64 (0)]), .int .i64 3]) (by simp [results, Tryz.results112, go_sem, *]) rfl ⟨rfl, by (repeat' (first | with_reducible exact Below.refl _ _ | with_reducible refine Below.setCell ?_ ?_ _ | with_reducible refine Below.drew ?_ | with_reducible refine below_drewN ?_ _ | with_reducible refine Below.alloc ?_ ?_ _ | with_reducible refine below_step b_w4 ?_ ?_ | with_reducible refine below_step b_w3 ?_ ?_ | with_reducible refine below_step b_w2 ?_ ?_ | with_reducible refine below_step b_w1 ?_ ?_ | omega | (simp; done) | (simp; omega)))⟩
set_option maxHeartbeats 4000000 in
theorem ShadowPlace_yes (h az sl : Int) (v : V3) (w : World) (h0 : 1 ≤ h) (h1 : h ≤ 10000) (z0 : 0 ≤ az) (z1 : az ≤ 1295999) (y0 : -324000 ≤ sl) (y1 : sl ≤ 324000) (a0 : -3000000 ≤ v.x.lo) (a1 : v.x.lo ≤ v.x.hi) (a2 : v.x.hi ≤ 3000000) (b0 : -3000000 ≤ v.y.lo) (b1 : v.y.lo ≤ v.y.hi) (b2 : v.y.hi ≤ 3000000) (c0 : -3000000 ≤ v.z.lo) (c1 : v.z.lo ≤ v.z.hi) (c2 : v.z.hi ≤ 3000000) (k : 0 < (paV az sl v).z.lo) (q : plB (spP h (paV az sl v)) = true) :
    Calls Tryz.prog 112 #[(.agg #[.int .i64 (az), .int .i64 (sl)]), .int .i64 h, (.agg #[.int .i64 (v.x.lo), .int .i64 (v.x.hi), .int .i64 (v.y.lo), .int .i64 (v.y.hi), .int .i64 (v.z.lo), .int .i64 (v.z.hi)])] w fun e w' => e = .returned (.tuple #[(.agg #[.int .i64 ((spP h (paV az sl v)).x.lo), .int .i64 ((spP h (paV az sl v)).x.hi), .int .i64 ((spP h (paV az sl v)).y.lo), .int .i64 ((spP h (paV az sl v)).y.hi)]), .int .i64 0]) ∧ Below w.heap.size w w' := by
  obtain ⟨p1, p2, p3, p4, p5, p6, p7, p8, p9⟩ := paV_bd' az sl a0 a1 a2 b0 b1 b2 c0 c1 c2
  have ve := veB_small a0 a1 a2 b0 b1 b2 c0 c1 c2
  have pa := fun w => parts_any az sl v w z0 z1 y0 y1 a0 a1 a2 b0 b1 b2 c0 c1 c2
  have wa : waB az sl = true := by unfold waB; rw [inB_t z0 z1, inB_t y0 y1]; rfl
  have he : heB h = true := inB_t h0 h1
  generalize paV az sl v = p at pa k q p1 p2 p3 p4 p5 p6 p7 p8 p9 ⊢
  have po := fun g cap w hg e0 e1 e2 e3 e4 e5 => placeOf_yes h p g cap w hg h0 h1 p1 p2 p3 p4 p5 p6 k p8 p9 e0 e1 e2 e3 e4 e5 q
  generalize spP h p = r at po ⊢
  have PA := Lib.hid pa; have PO := Lib.hid po; clear pa po q
  go_enter Tryz.func112, Tryz.ntmps112
  go_wp2_with fail
  refine (IsWall_any az sl _).mono ?_
  rintro _ w1 ⟨rfl, b_w1⟩
  obtain ⟨c_w1, f_w1, z_w1⟩ := bfacts b_w1 (by first | (simp; rfl) | rfl)
  have y0_w1 : w.heap.size < w1.heap.size := (by omega)
  have y1_w1 : w.heap.size + 1 < w1.heap.size := (by omega)
  have y2_w1 : w.heap.size + 1 + 1 < w1.heap.size := (by omega)
  have k0_0_w1 : w1.cell? ⟨w.heap.size, 0, none⟩ = some (.int .i64 (az)) := (by first | exact (c_w1 _ _ (by omega)).trans (by go_simp) | go_simp)
  have l0_0_w1 : w1.frozen? ⟨w.heap.size, 0, none⟩ = false := (by first | exact (f_w1 _ _ (by omega)).trans (by go_simp) | go_simp)
  have k0_1_w1 : w1.cell? ⟨w.heap.size, 1, none⟩ = some (.int .i64 (sl)) := (by first | exact (c_w1 _ _ (by omega)).trans (by go_simp) | go_simp)
  have l0_1_w1 : w1.frozen? ⟨w.heap.size, 1, none⟩ = false := (by first | exact (f_w1 _ _ (by omega)).trans (by go_simp) | go_simp)
  have k1_0_w1 : w1.cell? ⟨w.heap.size + 1, 0, none⟩ = some (.int .i64 (v.x.lo)) := (by first | exact (c_w1 _ _ (by omega)).trans (by go_simp) | go_simp)
  have l1_0_w1 : w1.frozen? ⟨w.heap.size + 1, 0, none⟩ = false := (by first | exact (f_w1 _ _ (by omega)).trans (by go_simp) | go_simp)
  have k1_1_w1 : w1.cell? ⟨w.heap.size + 1, 1, none⟩ = some (.int .i64 (v.x.hi)) := (by first | exact (c_w1 _ _ (by omega)).trans (by go_simp) | go_simp)
  have l1_1_w1 : w1.frozen? ⟨w.heap.size + 1, 1, none⟩ = false := (by first | exact (f_w1 _ _ (by omega)).trans (by go_simp) | go_simp)
  have k1_2_w1 : w1.cell? ⟨w.heap.size + 1, 2, none⟩ = some (.int .i64 (v.y.lo)) := (by first | exact (c_w1 _ _ (by omega)).trans (by go_simp) | go_simp)
  have l1_2_w1 : w1.frozen? ⟨w.heap.size + 1, 2, none⟩ = false := (by first | exact (f_w1 _ _ (by omega)).trans (by go_simp) | go_simp)
  have k1_3_w1 : w1.cell? ⟨w.heap.size + 1, 3, none⟩ = some (.int .i64 (v.y.hi)) := (by first | exact (c_w1 _ _ (by omega)).trans (by go_simp) | go_simp)
  have l1_3_w1 : w1.frozen? ⟨w.heap.size + 1, 3, none⟩ = false := (by first | exact (f_w1 _ _ (by omega)).trans (by go_simp) | go_simp)
  have k1_4_w1 : w1.cell? ⟨w.heap.size + 1, 4, none⟩ = some (.int .i64 (v.z.lo)) := (by first | exact (c_w1 _ _ (by omega)).trans (by go_simp) | go_simp)
  have l1_4_w1 : w1.frozen? ⟨w.heap.size + 1, 4, none⟩ = false := (by first | exact (f_w1 _ _ (by omega)).trans (by go_simp) | go_simp)
  have k1_5_w1 : w1.cell? ⟨w.heap.size + 1, 5, none⟩ = some (.int .i64 (v.z.hi)) := (by first | exact (c_w1 _ _ (by omega)).trans (by go_simp) | go_simp)
  have l1_5_w1 : w1.frozen? ⟨w.heap.size + 1, 5, none⟩ = false := (by first | exact (f_w1 _ _ (by omega)).trans (by go_simp) | go_simp)
  have k2_0_w1 : w1.cell? ⟨w.heap.size + 1 + 1, 0, none⟩ = some (.int .i64 (0)) := (by first | exact (c_w1 _ _ (by omega)).trans (by go_simp) | go_simp)
  have l2_0_w1 : w1.frozen? ⟨w.heap.size + 1 + 1, 0, none⟩ = false := (by first | exact (f_w1 _ _ (by omega)).trans (by go_simp) | go_simp)
  have k2_1_w1 : w1.cell? ⟨w.heap.size + 1 + 1, 1, none⟩ = some (.int .i64 (0)) := (by first | exact (c_w1 _ _ (by omega)).trans (by go_simp) | go_simp)
  have l2_1_w1 : w1.frozen? ⟨w.heap.size + 1 + 1, 1, none⟩ = false := (by first | exact (f_w1 _ _ (by omega)).trans (by go_simp) | go_simp)
  have k2_2_w1 : w1.cell? ⟨w.heap.size + 1 + 1, 2, none⟩ = some (.int .i64 (0)) := (by first | exact (c_w1 _ _ (by omega)).trans (by go_simp) | go_simp)
  have l2_2_w1 : w1.frozen? ⟨w.heap.size + 1 + 1, 2, none⟩ = false := (by first | exact (f_w1 _ _ (by omega)).trans (by go_simp) | go_simp)
  have k2_3_w1 : w1.cell? ⟨w.heap.size + 1 + 1, 3, none⟩ = some (.int .i64 (0)) := (by first | exact (c_w1 _ _ (by omega)).trans (by go_simp) | go_simp)
  have l2_3_w1 : w1.frozen? ⟨w.heap.size + 1 + 1, 3, none⟩ = false := (by first | exact (f_w1 _ _ (by omega)).trans (by go_simp) | go_simp)
  clear c_w1 f_w1
  go_wp2_with fail
  refine (IsVector_any _ _ _ _ _ _ _).mono ?_
  rintro _ w2 ⟨rfl, b_w2⟩
  obtain ⟨c_w2, f_w2, z_w2⟩ := bfacts b_w2 (by first | (simp; rfl) | rfl)
  have y0_w2 : w.heap.size < w2.heap.size := (by omega)
  have y1_w2 : w.heap.size + 1 < w2.heap.size := (by omega)
  have y2_w2 : w.heap.size + 1 + 1 < w2.heap.size := (by omega)
  have k0_0_w2 : w2.cell? ⟨w.heap.size, 0, none⟩ = some (.int .i64 (az)) := (by first | exact (c_w2 _ _ (by omega)).trans (by go_simp) | go_simp)
  have l0_0_w2 : w2.frozen? ⟨w.heap.size, 0, none⟩ = false := (by first | exact (f_w2 _ _ (by omega)).trans (by go_simp) | go_simp)
  have k0_1_w2 : w2.cell? ⟨w.heap.size, 1, none⟩ = some (.int .i64 (sl)) := (by first | exact (c_w2 _ _ (by omega)).trans (by go_simp) | go_simp)
  have l0_1_w2 : w2.frozen? ⟨w.heap.size, 1, none⟩ = false := (by first | exact (f_w2 _ _ (by omega)).trans (by go_simp) | go_simp)
  have k1_0_w2 : w2.cell? ⟨w.heap.size + 1, 0, none⟩ = some (.int .i64 (v.x.lo)) := (by first | exact (c_w2 _ _ (by omega)).trans (by go_simp) | go_simp)
  have l1_0_w2 : w2.frozen? ⟨w.heap.size + 1, 0, none⟩ = false := (by first | exact (f_w2 _ _ (by omega)).trans (by go_simp) | go_simp)
  have k1_1_w2 : w2.cell? ⟨w.heap.size + 1, 1, none⟩ = some (.int .i64 (v.x.hi)) := (by first | exact (c_w2 _ _ (by omega)).trans (by go_simp) | go_simp)
  have l1_1_w2 : w2.frozen? ⟨w.heap.size + 1, 1, none⟩ = false := (by first | exact (f_w2 _ _ (by omega)).trans (by go_simp) | go_simp)
  have k1_2_w2 : w2.cell? ⟨w.heap.size + 1, 2, none⟩ = some (.int .i64 (v.y.lo)) := (by first | exact (c_w2 _ _ (by omega)).trans (by go_simp) | go_simp)
  have l1_2_w2 : w2.frozen? ⟨w.heap.size + 1, 2, none⟩ = false := (by first | exact (f_w2 _ _ (by omega)).trans (by go_simp) | go_simp)
  have k1_3_w2 : w2.cell? ⟨w.heap.size + 1, 3, none⟩ = some (.int .i64 (v.y.hi)) := (by first | exact (c_w2 _ _ (by omega)).trans (by go_simp) | go_simp)
  have l1_3_w2 : w2.frozen? ⟨w.heap.size + 1, 3, none⟩ = false := (by first | exact (f_w2 _ _ (by omega)).trans (by go_simp) | go_simp)
  have k1_4_w2 : w2.cell? ⟨w.heap.size + 1, 4, none⟩ = some (.int .i64 (v.z.lo)) := (by first | exact (c_w2 _ _ (by omega)).trans (by go_simp) | go_simp)
  have l1_4_w2 : w2.frozen? ⟨w.heap.size + 1, 4, none⟩ = false := (by first | exact (f_w2 _ _ (by omega)).trans (by go_simp) | go_simp)
  have k1_5_w2 : w2.cell? ⟨w.heap.size + 1, 5, none⟩ = some (.int .i64 (v.z.hi)) := (by first | exact (c_w2 _ _ (by omega)).trans (by go_simp) | go_simp)
  have l1_5_w2 : w2.frozen? ⟨w.heap.size + 1, 5, none⟩ = false := (by first | exact (f_w2 _ _ (by omega)).trans (by go_simp) | go_simp)
  have k2_0_w2 : w2.cell? ⟨w.heap.size + 1 + 1, 0, none⟩ = some (.int .i64 (0)) := (by first | exact (c_w2 _ _ (by omega)).trans (by go_simp) | go_simp)
  have l2_0_w2 : w2.frozen? ⟨w.heap.size + 1 + 1, 0, none⟩ = false := (by first | exact (f_w2 _ _ (by omega)).trans (by go_simp) | go_simp)
  have k2_1_w2 : w2.cell? ⟨w.heap.size + 1 + 1, 1, none⟩ = some (.int .i64 (0)) := (by first | exact (c_w2 _ _ (by omega)).trans (by go_simp) | go_simp)
  have l2_1_w2 : w2.frozen? ⟨w.heap.size + 1 + 1, 1, none⟩ = false := (by first | exact (f_w2 _ _ (by omega)).trans (by go_simp) | go_simp)
  have k2_2_w2 : w2.cell? ⟨w.heap.size + 1 + 1, 2, none⟩ = some (.int .i64 (0)) := (by first | exact (c_w2 _ _ (by omega)).trans (by go_simp) | go_simp)
  have l2_2_w2 : w2.frozen? ⟨w.heap.size + 1 + 1, 2, none⟩ = false := (by first | exact (f_w2 _ _ (by omega)).trans (by go_simp) | go_simp)
  have k2_3_w2 : w2.cell? ⟨w.heap.size + 1 + 1, 3, none⟩ = some (.int .i64 (0)) := (by first | exact (c_w2 _ _ (by omega)).trans (by go_simp) | go_simp)
  have l2_3_w2 : w2.frozen? ⟨w.heap.size + 1 + 1, 3, none⟩ = false := (by first | exact (f_w2 _ _ (by omega)).trans (by go_simp) | go_simp)
  clear c_w2 f_w2
  go_wp2_with (go_at_call 143; refine (isHeight_any _ _).mono ?_; rintro e w' ⟨rfl, rfl⟩)
  refine (PA.out _).mono ?_
  rintro _ w3 ⟨g, cap, rfl, hg1, hg2, ⟨k0, k1, k2, k3, k4, k5⟩, b_w3⟩
  obtain ⟨c_w3, f_w3, z_w3⟩ := bfacts b_w3 (by first | (simp; rfl) | rfl); have y0_w3 : w.heap.size + 1 + 1 < w3.heap.size := (by omega); have yb0_w3 : w.heap.size + 1 < w3.heap.size := (by omega); have yb1_w3 : w.heap.size < w3.heap.size := (by omega); have k0_0_w3 : w3.cell? ⟨w.heap.size + 1 + 1, 0, none⟩ = some (.int .i64 (0)) := (by first | exact (c_w3 _ _ (by omega)).trans (by go_simp) | go_simp); have l0_0_w3 : w3.frozen? ⟨w.heap.size + 1 + 1, 0, none⟩ = false := (by first | exact (f_w3 _ _ (by omega)).trans (by go_simp) | go_simp); have k0_1_w3 : w3.cell? ⟨w.heap.size + 1 + 1, 1, none⟩ = some (.int .i64 (0)) := (by first | exact (c_w3 _ _ (by omega)).trans (by go_simp) | go_simp); have l0_1_w3 : w3.frozen? ⟨w.heap.size + 1 + 1, 1, none⟩ = false := (by first | exact (f_w3 _ _ (by omega)).trans (by go_simp) | go_simp); have k0_2_w3 : w3.cell? ⟨w.heap.size + 1 + 1, 2, none⟩ = some (.int .i64 (0)) := (by first | exact (c_w3 _ _ (by omega)).trans (by go_simp) | go_simp); have l0_2_w3 : w3.frozen? ⟨w.heap.size + 1 + 1, 2, none⟩ = false := (by first | exact (f_w3 _ _ (by omega)).trans (by go_simp) | go_simp); have k0_3_w3 : w3.cell? ⟨w.heap.size + 1 + 1, 3, none⟩ = some (.int .i64 (0)) := (by first | exact (c_w3 _ _ (by omega)).trans (by go_simp) | go_simp); have l0_3_w3 : w3.frozen? ⟨w.heap.size + 1 + 1, 3, none⟩ = false := (by first | exact (f_w3 _ _ (by omega)).trans (by go_simp) | go_simp); clear c_w3 f_w3
  have hgw : w.heap.size + 2 < g := by omega
  go_wp2_with fail
  refine (PO.out g cap _ hg2 k0 k1 k2 k3 k4 k5).mono ?_
  rintro _ w4 ⟨rfl, b_w4⟩
  obtain ⟨c_w4, f_w4, z_w4⟩ := bfacts b_w4 (by first | (simp; rfl) | rfl)
  have y0_w4 : w.heap.size + 1 + 1 < w4.heap.size := (by omega)
  have yb0_w4 : w.heap.size + 1 < w4.heap.size := (by omega)
  have yb1_w4 : w.heap.size < w4.heap.size := (by omega)
  have k0_0_w4 : w4.cell? ⟨w.heap.size + 1 + 1, 0, none⟩ = some (.int .i64 (0)) := (by first | exact (c_w4 _ _ (by omega)).trans (by go_simp) | go_simp)
  have l0_0_w4 : w4.frozen? ⟨w.heap.size + 1 + 1, 0, none⟩ = false := (by first | exact (f_w4 _ _ (by omega)).trans (by go_simp) | go_simp)
  have k0_1_w4 : w4.cell? ⟨w.heap.size + 1 + 1, 1, none⟩ = some (.int .i64 (0)) := (by first | exact (c_w4 _ _ (by omega)).trans (by go_simp) | go_simp)
  have l0_1_w4 : w4.frozen? ⟨w.heap.size + 1 + 1, 1, none⟩ = false := (by first | exact (f_w4 _ _ (by omega)).trans (by go_simp) | go_simp)
  have k0_2_w4 : w4.cell? ⟨w.heap.size + 1 + 1, 2, none⟩ = some (.int .i64 (0)) := (by first | exact (c_w4 _ _ (by omega)).trans (by go_simp) | go_simp)
  have l0_2_w4 : w4.frozen? ⟨w.heap.size + 1 + 1, 2, none⟩ = false := (by first | exact (f_w4 _ _ (by omega)).trans (by go_simp) | go_simp)
  have k0_3_w4 : w4.cell? ⟨w.heap.size + 1 + 1, 3, none⟩ = some (.int .i64 (0)) := (by first | exact (c_w4 _ _ (by omega)).trans (by go_simp) | go_simp)
  have l0_3_w4 : w4.frozen? ⟨w.heap.size + 1 + 1, 3, none⟩ = false := (by first | exact (f_w4 _ _ (by omega)).trans (by go_simp) | go_simp)
  clear c_w4 f_w4
  go_wp2
  exact bodyPost_ret (v := .tuple #[(.agg #[.int .i64 (r.x.lo), .int .i64 (r.x.hi), .int .i64 (r.y.lo), .int .i64 (r.y.hi)]), .int .i64 0]) (by simp [results, Tryz.results112, go_sem, *]) rfl ⟨rfl, by (repeat' (first | with_reducible exact Below.refl _ _ | with_reducible refine Below.setCell ?_ ?_ _ | with_reducible refine Below.drew ?_ | with_reducible refine below_drewN ?_ _ | with_reducible refine Below.alloc ?_ ?_ _ | with_reducible refine below_step b_w4 ?_ ?_ | with_reducible refine below_step b_w3 ?_ ?_ | with_reducible refine below_step b_w2 ?_ ?_ | with_reducible refine below_step b_w1 ?_ ?_ | omega | (simp; done) | (simp; omega)))⟩

set_option maxHeartbeats 4000000 in
theorem shadowOf_no (lat : Int) (h az sl : Int) (v : V3) (w : World) (h0 : 1 ≤ h) (h1 : h ≤ 10000) (z0 : 0 ≤ az) (z1 : az ≤ 1295999) (y0 : -324000 ≤ sl) (y1 : sl ≤ 324000) (a0 : -3000000 ≤ v.x.lo) (a1 : v.x.lo ≤ v.x.hi) (a2 : v.x.hi ≤ 3000000) (b0 : -3000000 ≤ v.y.lo) (b1 : v.y.lo ≤ v.y.hi) (b2 : v.y.hi ≤ 3000000) (c0 : -3000000 ≤ v.z.lo) (c1 : v.z.lo ≤ v.z.hi) (c2 : v.z.hi ≤ 3000000) (k : shB az sl h v = false) :
    Calls Tryz.prog 81 #[(.agg #[.int .i64 (lat), .int .i64 (az), .int .i64 (sl), .int .i64 (h)]), (.agg #[.int .i64 (v.x.lo), .int .i64 (v.x.hi), .int .i64 (v.y.lo), .int .i64 (v.y.hi), .int .i64 (v.z.lo), .int .i64 (v.z.hi)])] w fun e w' => e = .returned (.tuple #[(.agg #[.int .i64 (0), .int .i64 (0), .int .i64 (0), .int .i64 (0)]), .bool false]) ∧ Below w.heap.size w w' := by
  by_cases k0 : 0 < v.z.lo
  · obtain ⟨c, hc, sp⟩ : ∃ c : Int, c ≠ 0 ∧ ∀ w, Calls Tryz.prog 112 #[(.agg #[.int .i64 (az), .int .i64 (sl)]), .int .i64 h, (.agg #[.int .i64 (v.x.lo), .int .i64 (v.x.hi), .int .i64 (v.y.lo), .int .i64 (v.y.hi), .int .i64 (v.z.lo), .int .i64 (v.z.hi)])] w fun e w' => e = .returned (.tuple #[(.agg #[.int .i64 (0), .int .i64 (0), .int .i64 (0), .int .i64 (0)]), .int .i64 c]) ∧ Below w.heap.size w w' := by
      by_cases k1 : 0 < (paV az sl v).z.lo
      · have q : plB (spP h (paV az sl v)) = false := by unfold shB at k; rw [decide_eq_true k0, decide_eq_true k1] at k; simpa using k
        exact ⟨3, by omega, fun w => ShadowPlace_no h az sl v w h0 h1 z0 z1 y0 y1 a0 a1 a2 b0 b1 b2 c0 c1 c2 k1 q⟩
      · exact ⟨5, by omega, fun w => ShadowPlace_dark h az sl v w h0 h1 z0 z1 y0 y1 a0 a1 a2 b0 b1 b2 c0 c1 c2 k1⟩
    have SP := Lib.hid sp; clear sp k
    go_enter Tryz.func81, Tryz.ntmps81
    go_wp2_with fail
    refine (SP.out _).mono ?_
    rintro _ w1 ⟨rfl, b_w1⟩
    obtain ⟨c_w1, f_w1, z_w1⟩ := bfacts b_w1 (by first | (simp; rfl) | rfl)
    have y0_w1 : w.heap.size + 1 + 1 < w1.heap.size := (by omega)
    have yb0_w1 : w.heap.size + 1 < w1.heap.size := (by omega)
    have yb1_w1 : w.heap.size < w1.heap.size := (by omega)
    have k0_0_w1 : w1.cell? ⟨w.heap.size + 1 + 1, 0, none⟩ = some (.int .i64 (0)) := (by first | exact (c_w1 _ _ (by omega)).trans (by go_simp) | go_simp)
    have l0_0_w1 : w1.frozen? ⟨w.heap.size + 1 + 1, 0, none⟩ = false := (by first | exact (f_w1 _ _ (by omega)).trans (by go_simp) | go_simp)
    have k0_1_w1 : w1.cell? ⟨w.heap.size + 1 + 1, 1, none⟩ = some (.int .i64 (0)) := (by first | exact (c_w1 _ _ (by omega)).trans (by go_simp) | go_simp)
    have l0_1_w1 : w1.frozen? ⟨w.heap.size + 1 + 1, 1, none⟩ = false := (by first | exact (f_w1 _ _ (by omega)).trans (by go_simp) | go_simp)
    have k0_2_w1 : w1.cell? ⟨w.heap.size + 1 + 1, 2, none⟩ = some (.int .i64 (0)) := (by first | exact (c_w1 _ _ (by omega)).trans (by go_simp) | go_simp)
    have l0_2_w1 : w1.frozen? ⟨w.heap.size + 1 + 1, 2, none⟩ = false := (by first | exact (f_w1 _ _ (by omega)).trans (by go_simp) | go_simp)
    have k0_3_w1 : w1.cell? ⟨w.heap.size + 1 + 1, 3, none⟩ = some (.int .i64 (0)) := (by first | exact (c_w1 _ _ (by omega)).trans (by go_simp) | go_simp)
    have l0_3_w1 : w1.frozen? ⟨w.heap.size + 1 + 1, 3, none⟩ = false := (by first | exact (f_w1 _ _ (by omega)).trans (by go_simp) | go_simp)
    clear c_w1 f_w1
    go_wp2
    exact bodyPost_ret (v := .tuple #[(.agg #[.int .i64 (0), .int .i64 (0), .int .i64 (0), .int .i64 (0)]), .bool false]) (by simp [results, Tryz.results81, go_sem, *]) rfl ⟨rfl, by (repeat' (first | with_reducible exact Below.refl _ _ | with_reducible refine Below.setCell ?_ ?_ _ | with_reducible refine Below.drew ?_ | with_reducible refine below_drewN ?_ _ | with_reducible refine Below.alloc ?_ ?_ _ | with_reducible refine below_step b_w1 ?_ ?_ | omega | (simp; done) | (simp; omega)))⟩
  · clear k
    go_enter Tryz.func81, Tryz.ntmps81
    go_wp2
    exact bodyPost_ret (v := .tuple #[(.agg #[.int .i64 (0), .int .i64 (0), .int .i64 (0), .int .i64 (0)]), .bool false]) (by simp [results, Tryz.results81, go_sem, *]) rfl ⟨rfl, by (repeat' (first | with_reducible exact Below.refl _ _ | with_reducible assumption | with_reducible refine Below.setCell ?_ ?_ _ | with_reducible refine Below.drew ?_ | with_reducible refine below_drewN ?_ _ | with_reducible refine Below.alloc ?_ ?_ _ | with_reducible refine below_step (by assumption) ?_ ?_ | omega | exact Below.size (by assumption) | (simp; done) | (simp; omega)))⟩
set_option maxHeartbeats 4000000 in
theorem shadowOf_yes (lat : Int) (h az sl : Int) (v : V3) (w : World) (h0 : 1 ≤ h) (h1 : h ≤ 10000) (z0 : 0 ≤ az) (z1 : az ≤ 1295999) (y0 : -324000 ≤ sl) (y1 : sl ≤ 324000) (a0 : -3000000 ≤ v.x.lo) (a1 : v.x.lo ≤ v.x.hi) (a2 : v.x.hi ≤ 3000000) (b0 : -3000000 ≤ v.y.lo) (b1 : v.y.lo ≤ v.y.hi) (b2 : v.y.hi ≤ 3000000) (c0 : -3000000 ≤ v.z.lo) (c1 : v.z.lo ≤ v.z.hi) (c2 : v.z.hi ≤ 3000000) (k : shB az sl h v = true) :
    Calls Tryz.prog 81 #[(.agg #[.int .i64 (lat), .int .i64 (az), .int .i64 (sl), .int .i64 (h)]), (.agg #[.int .i64 (v.x.lo), .int .i64 (v.x.hi), .int .i64 (v.y.lo), .int .i64 (v.y.hi), .int .i64 (v.z.lo), .int .i64 (v.z.hi)])] w fun e w' => e = .returned (.tuple #[(.agg #[.int .i64 ((spP h (paV az sl v)).x.lo), .int .i64 ((spP h (paV az sl v)).x.hi), .int .i64 ((spP h (paV az sl v)).y.lo), .int .i64 ((spP h (paV az sl v)).y.hi)]), .bool true]) ∧ Below w.heap.size w w' := by
  obtain ⟨k0, k1, q⟩ : 0 < v.z.lo ∧ 0 < (paV az sl v).z.lo ∧ plB (spP h (paV az sl v)) = true := by unfold shB at k; simpa [Bool.and_eq_true] using k
  have sp := fun w => ShadowPlace_yes h az sl v w h0 h1 z0 z1 y0 y1 a0 a1 a2 b0 b1 b2 c0 c1 c2 k1 q
  generalize spP h (paV az sl v) = r at sp ⊢
  have SP := Lib.hid sp; clear sp k q k1
  go_enter Tryz.func81, Tryz.ntmps81
  go_wp2_with fail
  refine (SP.out _).mono ?_
  rintro _ w1 ⟨rfl, b_w1⟩
  obtain ⟨c_w1, f_w1, z_w1⟩ := bfacts b_w1 (by first | (simp; rfl) | rfl)
  have y0_w1 : w.heap.size + 1 + 1 < w1.heap.size := (by omega)
  have yb0_w1 : w.heap.size + 1 < w1.heap.size := (by omega)
  have yb1_w1 : w.heap.size < w1.heap.size := (by omega)
  have k0_0_w1 : w1.cell? ⟨w.heap.size + 1 + 1, 0, none⟩ = some (.int .i64 (0)) := (by first | exact (c_w1 _ _ (by omega)).trans (by go_simp) | go_simp)
  have l0_0_w1 : w1.frozen? ⟨w.heap.size + 1 + 1, 0, none⟩ = false := (by first | exact (f_w1 _ _ (by omega)).trans (by go_simp) | go_simp)
  have k0_1_w1 : w1.cell? ⟨w.heap.size + 1 + 1, 1, none⟩ = some (.int .i64 (0)) := (by first | exact (c_w1 _ _ (by omega)).trans (by go_simp) | go_simp)
  have l0_1_w1 : w1.frozen? ⟨w.heap.size + 1 + 1, 1, none⟩ = false := (by first | exact (f_w1 _ _ (by omega)).trans (by go_simp) | go_simp)
  have k0_2_w1 : w1.cell? ⟨w.heap.size + 1 + 1, 2, none⟩ = some (.int .i64 (0)) := (by first | exact (c_w1 _ _ (by omega)).trans (by go_simp) | go_simp)
  have l0_2_w1 : w1.frozen? ⟨w.heap.size + 1 + 1, 2, none⟩ = false := (by first | exact (f_w1 _ _ (by omega)).trans (by go_simp) | go_simp)
  have k0_3_w1 : w1.cell? ⟨w.heap.size + 1 + 1, 3, none⟩ = some (.int .i64 (0)) := (by first | exact (c_w1 _ _ (by omega)).trans (by go_simp) | go_simp)
  have l0_3_w1 : w1.frozen? ⟨w.heap.size + 1 + 1, 3, none⟩ = false := (by first | exact (f_w1 _ _ (by omega)).trans (by go_simp) | go_simp)
  clear c_w1 f_w1
  go_wp2
  exact bodyPost_ret (v := .tuple #[(.agg #[.int .i64 (r.x.lo), .int .i64 (r.x.hi), .int .i64 (r.y.lo), .int .i64 (r.y.hi)]), .bool true]) (by simp [results, Tryz.results81, go_sem, *]) rfl ⟨rfl, by (repeat' (first | with_reducible exact Below.refl _ _ | with_reducible refine Below.setCell ?_ ?_ _ | with_reducible refine Below.drew ?_ | with_reducible refine below_drewN ?_ _ | with_reducible refine Below.alloc ?_ ?_ _ | with_reducible refine below_step b_w1 ?_ ?_ | omega | (simp; done) | (simp; omega)))⟩


end Go.Proofs.YteooegliepbcnaaGreat
