/- What the program's functions on the lights of a day return. -/
import Derived.Test.YtikmepppnechaaaC4
import Derived.Test.YtikmepppnechaaaApp
namespace Go.Proofs.Ytikmepppnechaaa
set_option linter.unusedVariables false
set_option linter.unusedSimpArgs false
open Go.RowKit


set_option maxHeartbeats 4000000 in
theorem lights_any (lat n h : Int) (w : World) (l0 : -324000 ≤ lat) (l1 : lat ≤ 324000) (n0 : -1000000 ≤ n) (n1 : n ≤ 1000000) (h0 : -36000 ≤ h) (h1 : h ≤ 36000) :
    Calls Try.prog 71 #[.int .i64 lat, .int .i64 n, .int .i64 h] w fun e w' => ∃ g cap : Nat, e = .returned (.slice (some ⟨g, 0, none⟩) 1440 cap) ∧ w.heap.size ≤ g ∧ g < w'.heap.size ∧ 1440 ≤ cap ∧ cap ≤ maxLen ∧
      (∀ j : Nat, j < 1440 → w'.cell? ⟨g, j, none⟩ = some (.int .i64 (dyM lat n h j))) ∧ Below w.heap.size w w' := by
  have dd := deI_bd n
  have li : ∀ (i : Nat) (w : World), i < 1440 → Calls Try.prog 63 #[.int .i64 lat, (.agg #[.int .i64 ((deI n).lo), .int .i64 ((deI n).hi)]), .int .i64 i, .int .i64 h] w fun e w' => e = .returned (.int .i64 (dyM lat n h i)) ∧ Below w.heap.size w w' :=
    fun i w hh => light_any lat _ _ h i w l0 l1 (by omega) (by omega) (by omega) (by omega) (by omega) (by omega) h0 h1
  generalize dyM lat n h = f at li ⊢
  have LI := Lib.hid li; clear li
  obtain ⟨i0, hi, hz0, hz1, hz2⟩ := info_parts info_i64
  obtain ⟨N, hN⟩ : ∃ N : Nat, N = 1440 := ⟨_, rfl⟩
  rw [← hN]
  have HN := Lib.hid hN; clear hN
  have HI := Lib.hid hi; have HZ0 := Lib.hid hz0; have HZ1 := Lib.hid hz1; have HZ2 := Lib.hid hz2
  clear hi hz0 hz1 hz2
  go_enter Try.func71, Try.ntmps71
  go_wp2_with fail
  refine (declination_any n _ n0 n1).mono ?_
  rintro _ w1 ⟨rfl, b_w1⟩
  obtain ⟨c_w1, f_w1, z_w1⟩ := bfacts b_w1 (by first | (simp; rfl) | rfl)
  go_wp2_with fail
  go_loopw [8, 13] (fun v k wr => ∃ i : Nat, i ≤ 1440 ∧ k = .int .i64 i ∧ wr.ownsRow w1.heap.size 2 1 v i ((List.range i).map fun j => .int .i64 (f j)) ∧ wr.heap[w1.heap.size + 1]? = some (.cells #[.int .i64 (deI n).lo, .int .i64 (deI n).hi] 23) ∧ Below w1.heap.size w1 wr ∧ w1.heap.size + 2 ≤ wr.heap.size) (fun _ k _ => (1440 - intOf k).toNat)
  case atStart =>
    refine ⟨0, by omega, rfl, (World.ownsRow_made w1 #[] 0 (Nat.le_refl _) (by simp [maxLen]) rfl).alloc _, ?_, ?_, ?_⟩
    · have := heap_alloc_new (w1.alloc (.cells #[] 2)) (.cells #[.int .i64 (deI n).lo, .int .i64 (deI n).hi] 23)
      simpa using this
    · exact Below.alloc (Below.alloc (Below.refl _ _) (by simp) _) (by simp) _
    · simp
  case round =>
    obtain ⟨i, hle, rfl, hown, hd, b_wr, z_wr⟩ := hrel
    obtain ⟨cd, fd, zd⟩ := blk_facts hd
    have k0 : wr.cell? ⟨w1.heap.size + 1, 0, none⟩ = some (.int .i64 (deI n).lo) := (cd 0).trans (by simp)
    have k1 : wr.cell? ⟨w1.heap.size + 1, 1, none⟩ = some (.int .i64 (deI n).hi) := (cd 1).trans (by simp)
    have OWN := Lib.hid hown; have HD := Lib.hid hd
    clear hown hd cd fd zd
    by_cases ht : (i : Int) < 1440
    · go_wp2_with fail
      refine (LI.out i _ (by omega)).mono ?_
      rintro _ w2 ⟨rfl, b_w2⟩
      have hown2 := own_below OWN.out b_w2
      have hd2 := heap_below HD.out b_w2
      have z_w2 := b_w2.size
      have OWN2 := Lib.hid hown2; have HD2 := Lib.hid hd2
      clear hown2 hd2 OWN HD k0 k1
      go_wp2_with (at_builtin; refine wpList_append_own _ rfl _ _ 70 rfl w1.heap.size 2 i0 (.int .i64 0) 1 8 Try.underlying70 HI.out HZ0.out HZ1.out HZ2.out rfl (by decide) _ _ _ rfl (OWN2.out.alloc _) ⟨w2.heap.size, 0, none⟩ 1 1 [.int .i64 (f i)] rfl rfl ?c1 ?c2 ?c3 ?c4 ?c5 ?_)
      case c1 => exact one_cell
      case c2 => exact one_int
      case c3 => unfold maxLen; omega
      case c4 => omega
      case c5 => simp; omega
      intro v' w3 hown3 hgrow _
      have hown2' := OWN2.out.alloc (.cells #[.int .i64 (f i)] 2)
      have r1 := heap_grown hown2' hgrow (heap_alloc HD2.out) (by decide)
      have r2 : Below w1.heap.size w1 w3 := ((b_wr.trans (b_w2.mono (by omega))).trans (Below.alloc (Below.refl _ _) (by omega) _)).trans (below_grown hown2' hgrow (by simp; omega))
      have r3 := hgrow.size
      simp at r3
      rw [map_range_succ] at hown3
      have R0 := Lib.hid hown3; have R1 := Lib.hid r1; have R2 := Lib.hid r2
      clear hown3 hown2' hgrow r1 r2 b_wr b_w2
      go_wp2
      go_roundw
      case rel => exact ⟨i + 1, by omega, by simp, R0.out, R1.out, R2.out, by omega⟩
      case measure => simp [intOf]; omega
    · have hi' : i = N := by have := HN.out; omega
      have HI' := Lib.hid hi'; clear hi'
      clear k0 k1
      go_wp2
      obtain ⟨g, cap, rfl, hg1, hg2, hg3, hg4, hg5⟩ := own_open OWN.out (by omega)
      go_ret
      refine ⟨g, cap, by rw [HI'.out]; rfl, by omega, hg2, by rw [← HI'.out]; exact hg3, hg4, fun j hj => hg5 j _ (map_range_get (by rw [HI'.out]; exact hj)), ?_⟩
      exact by (repeat' (first | with_reducible exact Below.refl _ _ | with_reducible refine Below.setCell ?_ ?_ _ | with_reducible refine Below.drew ?_ | with_reducible refine below_drewN ?_ _ | with_reducible refine Below.alloc ?_ ?_ _ | with_reducible refine below_step b_wr ?_ ?_ | with_reducible refine below_step b_w1 ?_ ?_ | omega | (simp; done) | (simp; omega)))

set_option maxHeartbeats 4000000 in
theorem counts_any (f : Nat → Int) (N g cap : Nat) (w : World) (fc : ∀ i, f i = 1 ∨ f i = 0 ∨ f i = -1) (hN : N ≤ 1440) (hg : g < w.heap.size) (hc : ∀ j, j < N → w.cell? ⟨g, j, none⟩ = some (.int .i64 (f j))) :
    Calls Try.prog 73 #[.slice (some ⟨g, 0, none⟩) N cap] w fun e w' => e = .returned (.agg #[.int .i64 (upN f N), .int .i64 (N - dnN f N)]) ∧ Below w.heap.size w w' := by
  have HC := Lib.hid hc; have FC := Lib.hid fc; clear hc fc
  go_enter Try.func73, Try.ntmps73
  go_wp2_with fail
  go_loopw [9] (fun k wr => ∃ i : Nat, i ≤ N ∧ k = .int .i64 i ∧ wr.heap[w.heap.size]? = some (.cells #[.int .i64 0, .int .i64 0] 23) ∧ wr.heap[w.heap.size + 1]? = some (.cells #[.int .i64 (upN f i), .int .i64 (i - dnN f i)] 23) ∧ Below w.heap.size w wr) (fun k _ => (N - intOf k).toNat)
  case atStart =>
    refine ⟨0, by omega, rfl, heap_alloc (heap_alloc_new w _), ?_, Below.alloc (Below.alloc (Below.refl _ _) (Nat.le_refl _) _) (by simp) _⟩
    have := heap_alloc_new (w.alloc (.cells #[.int .i64 0, .int .i64 0] 23)) (.cells #[.int .i64 0, .int .i64 0] 23)
    simpa [upN, dnN] using this
  case round =>
    obtain ⟨i, hle, rfl, hr, hd, b_wr⟩ := hrel
    have bU := upN_bd f i
    have bD := dnN_bd f i
    have z_hr : w.heap.size < wr.heap.size := heap_lt hr; have k0_hr : wr.cell? ⟨w.heap.size, 0, none⟩ = some (.int .i64 (0)) := ((blk_facts hr).1 0).trans (by simp); have l0_hr : wr.frozen? ⟨w.heap.size, 0, none⟩ = false := (blk_facts hr).2.1 0; have k1_hr : wr.cell? ⟨w.heap.size, 1, none⟩ = some (.int .i64 (0)) := ((blk_facts hr).1 1).trans (by simp); have l1_hr : wr.frozen? ⟨w.heap.size, 1, none⟩ = false := (blk_facts hr).2.1 1
    have z_hd : w.heap.size + 1 < wr.heap.size := heap_lt hd; have k0_hd : wr.cell? ⟨w.heap.size + 1, 0, none⟩ = some (.int .i64 (upN f i)) := ((blk_facts hd).1 0).trans (by simp); have l0_hd : wr.frozen? ⟨w.heap.size + 1, 0, none⟩ = false := (blk_facts hd).2.1 0; have k1_hd : wr.cell? ⟨w.heap.size + 1, 1, none⟩ = some (.int .i64 (i - dnN f i)) := ((blk_facts hd).1 1).trans (by simp); have l1_hd : wr.frozen? ⟨w.heap.size + 1, 1, none⟩ = false := (blk_facts hd).2.1 1
    have HD := Lib.hid hd; have HR := Lib.hid hr; have HB := Lib.hid b_wr
    clear hd hr
    by_cases ht : i < N
    · have hx : wr.cell? ⟨g, i, none⟩ = some (.int .i64 (f i)) := (b_wr.cell (p := ⟨g, i, none⟩) hg).trans (HC.out i ht)
      have z_wr := b_wr.size
      clear b_wr
      rcases FC.out i with hf | hf | hf
      · have u1 := upN_yes hf
        have d1 := dnN_no (show f i ≠ -1 by omega)
        have U1 := Lib.hid u1; have D1 := Lib.hid d1; clear u1 d1
        go_wp2
        go_roundw
        case rel =>
          refine ⟨i + 1, by omega, by simp, heap_setn (heap_setn HR.out (by simp)) (by simp), ?_, by (repeat' (first | with_reducible exact Below.refl _ _ | with_reducible refine Below.setCell ?_ ?_ _ | with_reducible refine Below.drew ?_ | with_reducible refine below_drewN ?_ _ | with_reducible refine Below.alloc ?_ ?_ _ | exact HB.out | omega | (simp; done) | (simp; omega)))⟩
          have h2 := heap_set1 (.int .i64 (i - dnN f i + 1)) (heap_set0 (.int .i64 (upN f i + 1)) HD.out)
          rw [U1.out, D1.out, show ((i + 1 : Nat) : Int) - dnN f i = i - dnN f i + 1 by omega]
          exact h2
        case measure => simp [intOf]; omega
      · have u1 := upN_no (show f i ≠ 1 by omega)
        have d1 := dnN_no (show f i ≠ -1 by omega)
        have U1 := Lib.hid u1; have D1 := Lib.hid d1; clear u1 d1
        go_wp2
        go_roundw
        case rel =>
          refine ⟨i + 1, by omega, by simp, heap_setn HR.out (by simp), ?_, by (repeat' (first | with_reducible exact Below.refl _ _ | with_reducible refine Below.setCell ?_ ?_ _ | with_reducible refine Below.drew ?_ | with_reducible refine below_drewN ?_ _ | with_reducible refine Below.alloc ?_ ?_ _ | exact HB.out | omega | (simp; done) | (simp; omega)))⟩
          have h2 := heap_set1 (.int .i64 (i - dnN f i + 1)) HD.out
          rw [U1.out, D1.out, show ((i + 1 : Nat) : Int) - dnN f i = i - dnN f i + 1 by omega]
          exact h2
        case measure => simp [intOf]; omega
      · have u1 := upN_no (show f i ≠ 1 by omega)
        have d1 := dnN_yes hf
        have U1 := Lib.hid u1; have D1 := Lib.hid d1; clear u1 d1
        go_wp2
        go_roundw
        case rel =>
          refine ⟨i + 1, by omega, by simp, HR.out, ?_, HB.out⟩
          rw [U1.out, D1.out, show ((i + 1 : Nat) : Int) - (dnN f i + 1) = i - dnN f i by omega]
          exact HD.out
        case measure => simp [intOf]; omega
    · have hi' : i = N := by omega
      have HI := Lib.hid hi'; clear hi'
      go_wp2
      exact bodyPost_ret (v := (.agg #[.int .i64 (upN f N), .int .i64 (N - dnN f N)])) (by rw [← HI.out]; simp [results, Try.results73, go_sem, *]) rfl ⟨rfl, HB.out.trans (by (repeat' (first | with_reducible exact Below.refl _ _ | with_reducible assumption | with_reducible refine Below.setCell ?_ ?_ _ | with_reducible refine Below.drew ?_ | with_reducible refine below_drewN ?_ _ | with_reducible refine Below.alloc ?_ ?_ _ | with_reducible refine below_step (by assumption) ?_ ?_ | omega | exact Below.size (by assumption) | (simp; done) | (simp; omega))))⟩

theorem seen1_any (lat n h : Int) (g cap : Nat) (w : World) (hg : g < w.heap.size) (hc : w.cell? ⟨g, 0, none⟩ = some (.int .i64 h)) :
    Calls Try.prog 62 #[.int .i64 lat, .int .i64 n, .slice (some ⟨g, 0, none⟩) 1 cap] w fun e w' => e = .returned (.bool (raB lat n h)) ∧ Below w.heap.size w w' := by
  have re : ([h].all (fun h => inB h (-36000) 36000) && (inB lat (-324000) 324000 && dayB n)) = raB lat n h := by simp only [List.all_cons, List.all_nil, Bool.and_true]; unfold raB; cases inB h (-36000) 36000 <;> cases inB lat (-324000) 324000 <;> cases dayB n <;> rfl
  rw [← re]
  exact seen_any lat n [h] g cap w (by simp) hg (fun j hj => by have : j = 0 := (by simpa using hj); subst this; exact hc)
theorem seen2_any (lat n h h' : Int) (g cap : Nat) (w : World) (hg : g < w.heap.size) (hc : w.cell? ⟨g, 0, none⟩ = some (.int .i64 h)) (hc' : w.cell? ⟨g, 1, none⟩ = some (.int .i64 h')) :
    Calls Try.prog 62 #[.int .i64 lat, .int .i64 n, .slice (some ⟨g, 0, none⟩) 2 cap] w fun e w' => e = .returned (.bool (raB lat n h && raB lat n h')) ∧ Below w.heap.size w w' := by
  have re : ([h, h'].all (fun h => inB h (-36000) 36000) && (inB lat (-324000) 324000 && dayB n)) = (raB lat n h && raB lat n h') := by simp only [List.all_cons, List.all_nil, Bool.and_true]; unfold raB; cases inB h (-36000) 36000 <;> cases inB h' (-36000) 36000 <;> cases inB lat (-324000) 324000 <;> cases dayB n <;> rfl
  rw [← re]
  refine seen_any lat n [h, h'] g cap w (by simp) hg (fun j hj => ?_)
  match j, hj with
  | 0, _ => exact hc
  | 1, _ => exact hc'


end Go.Proofs.Ytikmepppnechaaa
