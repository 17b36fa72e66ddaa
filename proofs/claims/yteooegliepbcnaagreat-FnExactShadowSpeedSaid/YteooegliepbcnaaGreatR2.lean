/- What the program's functions on dials and their shadows return. -/
import Derived.Test.YteooegliepbcnaaGreatR
namespace Go.Proofs.YteooegliepbcnaaGreat
set_option linter.unusedVariables false
set_option linter.unusedSimpArgs false
set_option maxRecDepth 10000
open Go.RowKit


set_option maxHeartbeats 8000000 in
theorem shadow_no (lat az sl h n m : Int) (w : World) (l0 : -324000 ≤ lat) (l1 : lat ≤ 324000) (h0 : 1 ≤ h) (h1 : h ≤ 10000) (z0 : 0 ≤ az) (z1 : az ≤ 1295999) (y0 : -324000 ≤ sl) (y1 : sl ≤ 324000) (n0 : -1000000 ≤ n) (n1 : n ≤ 1000000) (m0 : 0 ≤ m) (m1 : m ≤ 1439) (k : shB az sl h (suV lat (deI n).lo (deI n).hi m) = false) :
    Calls Tryz.prog 62 #[(.agg #[.int .i64 (lat), .int .i64 (az), .int .i64 (sl), .int .i64 (h)]), .int .i64 n, .int .i64 m] w fun e w' => e = .returned (.tuple #[(.agg #[.int .i64 (0), .int .i64 (0), .int .i64 (0), .int .i64 (0)]), .bool false]) ∧ Below w.heap.size w w' := by
  have dd := deI_bd n
  have su := fun w => sunAt_any lat (deI n).lo (deI n).hi m w l0 l1 (by omega) (by omega) (by omega) (by omega) m0 m1
  obtain ⟨a0, a1, a2, b0, b1, b2, c0, c1, c2⟩ := suV_bd lat (deI n).lo (deI n).hi m
  have so := fun w => shadowOf_no lat h az sl (suV lat (deI n).lo (deI n).hi m) w h0 h1 z0 z1 y0 y1 a0 a1 a2 b0 b1 b2 c0 c1 c2 k
  generalize suV lat (deI n).lo (deI n).hi m = v at su so
  have SU := Lib.hid su; have SO := Lib.hid so; clear su so k a0 a1 a2 b0 b1 b2 c0 c1 c2
  go_enter Tryz.func62, Tryz.ntmps62
  go_wp2_with fail
  have ho : ((w.alloc (.cells #[.int .i64 lat, .int .i64 az, .int .i64 sl, .int .i64 h] 30)).alloc (.cells #[.int .i64 0, .int .i64 0, .int .i64 0, .int .i64 0] 36)).heap[w.heap.size + 1]? = some (.cells #[.int .i64 0, .int .i64 0, .int .i64 0, .int .i64 0] 36) := by
    have := heap_alloc_new (w.alloc (.cells #[.int .i64 lat, .int .i64 az, .int .i64 sl, .int .i64 h] 30)) (.cells #[.int .i64 0, .int .i64 0, .int .i64 0, .int .i64 0] 36)
    simpa using this
  have HO := Lib.hid ho; clear ho
  refine wp_region_bx2 11 (some (w.heap.size + 1)) _ (fun w' => w'.cell? ⟨w.heap.size, 0, none⟩ = some (.int .i64 (lat)) ∧ w'.cell? ⟨w.heap.size, 1, none⟩ = some (.int .i64 (az)) ∧ w'.cell? ⟨w.heap.size, 2, none⟩ = some (.int .i64 (sl)) ∧ w'.cell? ⟨w.heap.size, 3, none⟩ = some (.int .i64 (h))) (by kernel_rfl) (by kernel_rfl) (by rfl) (fun b hb => by injection hb with hb; subst hb; exact HO.out) (fun w' hw' => ?_) (fun hS => ?_)
  focus exact ⟨hw'.cell (a := ⟨w.heap.size, 0, none⟩) (by go_simp) (by first | (simp; done) | (simp; omega)), hw'.cell (a := ⟨w.heap.size, 1, none⟩) (by go_simp) (by first | (simp; done) | (simp; omega)), hw'.cell (a := ⟨w.heap.size, 2, none⟩) (by go_simp) (by first | (simp; done) | (simp; omega)), hw'.cell (a := ⟨w.heap.size, 3, none⟩) (by go_simp) (by first | (simp; done) | (simp; omega))⟩
  have HS := Lib.hid hS; clear hS
  simp only [List.take_succ_cons, List.take_zero, List.drop_succ_cons, List.drop_zero]
  repeat (first | (refine wpBx_op ?_ (fun K hK => ?_); (focus exact fun _ => rfl); apply Exists.intro; refine ⟨fun γ w' hw' => ?_, ?_⟩; (focus (first | (go_simp; first | (go_at_call 80; exact declination_any _ _ n0 n1) | (go_at_call 82; exact SU.out _) | (go_at_call 81; exact SO.out _)) | (obtain ⟨kr0, kr1, kr2, kr3⟩ := HS.out w' hw'; go_simp; rfl))); go_simp; refine hK _ ?_; clear hK K) | (apply wpBx_own (b := w.heap.size + 1) rfl rfl; (case hw => (focus exact fun _ => rfl)); intro K hK; apply Exists.intro; refine ⟨fun γ w' hw' hx => ?_, ?_⟩; (focus (have HX := Lib.hid hx; obtain ⟨cx, fx, zx⟩ := blk_facts hx; clear hx; obtain ⟨kr0, kr1, kr2, kr3⟩ := HS.out w' hw'; go_simp; (repeat apply PutW.set); exact PutW.refl HX.out)); go_simp; refine hK _ _ ?_; clear hK K) | (refine wpBx_no ?_ (fun K hK => ?_); (focus exact fun _ => rfl); go_simp; refine hK _ ?_; clear hK K))
  refine wpBx_end ?_
  intro γ w1 gr_w1 ho_w1
  refine TailX_nil ?_
  (try dsimp only)
  clear γ
  have ho_w1 := ho_w1 _ rfl
  simp only [Option.getD_some] at ho_w1
  have oh_w1 := Lib.hid ho_w1
  obtain ⟨cgo_w1, fgo_w1, zgo_w1⟩ := blk_facts ho_w1
  have z_w1 := gr_w1.size
  simp at z_w1
  have b_w1 := Lib.hid gr_w1
  clear ho_w1 gr_w1
  have y0_w1 : w.heap.size < w1.heap.size := (by omega)
  have y1_w1 : w.heap.size + 1 < w1.heap.size := (by omega)
  have k1_0_w1 : w1.cell? ⟨w.heap.size + 1, 0, none⟩ = some (.int .i64 (0)) := (by first | exact b_w1.out.cell (by go_simp) (by first | (simp; done) | (simp; omega)) | go_simp)
  have l1_0_w1 : w1.frozen? ⟨w.heap.size + 1, 0, none⟩ = false := (by first | exact (f_w1 _ _ (by omega)).trans (by go_simp) | go_simp)
  have k1_1_w1 : w1.cell? ⟨w.heap.size + 1, 1, none⟩ = some (.int .i64 (0)) := (by first | exact b_w1.out.cell (by go_simp) (by first | (simp; done) | (simp; omega)) | go_simp)
  have l1_1_w1 : w1.frozen? ⟨w.heap.size + 1, 1, none⟩ = false := (by first | exact (f_w1 _ _ (by omega)).trans (by go_simp) | go_simp)
  have k1_2_w1 : w1.cell? ⟨w.heap.size + 1, 2, none⟩ = some (.int .i64 (0)) := (by first | exact b_w1.out.cell (by go_simp) (by first | (simp; done) | (simp; omega)) | go_simp)
  have l1_2_w1 : w1.frozen? ⟨w.heap.size + 1, 2, none⟩ = false := (by first | exact (f_w1 _ _ (by omega)).trans (by go_simp) | go_simp)
  have k1_3_w1 : w1.cell? ⟨w.heap.size + 1, 3, none⟩ = some (.int .i64 (0)) := (by first | exact b_w1.out.cell (by go_simp) (by first | (simp; done) | (simp; omega)) | go_simp)
  have l1_3_w1 : w1.frozen? ⟨w.heap.size + 1, 3, none⟩ = false := (by first | exact (f_w1 _ _ (by omega)).trans (by go_simp) | go_simp)
  clear cgo_w1 fgo_w1
  clear HS
  go_simp
  go_wp2
  exact bodyPost_ret (v := .tuple #[(.agg #[.int .i64 (0), .int .i64 (0), .int .i64 (0), .int .i64 (0)]), .bool false]) (by simp [results, Tryz.results62, go_sem, *]) rfl ⟨rfl, Below.trans (b := ((w.alloc (.cells #[.int .i64 lat, .int .i64 az, .int .i64 sl, .int .i64 h] 30)).alloc (.cells #[.int .i64 0, .int .i64 0, .int .i64 0, .int .i64 0] 36)).drew) (by (repeat' (first | with_reducible exact Below.refl _ _ | with_reducible assumption | with_reducible refine Below.setCell ?_ ?_ _ | with_reducible refine Below.drew ?_ | with_reducible refine below_drewN ?_ _ | with_reducible refine Below.alloc ?_ ?_ _ | with_reducible refine below_step (by assumption) ?_ ?_ | omega | exact Below.size (by assumption) | (simp; done) | (simp; omega)))) (below_of_own b_w1.out (by omega) (by simp; omega))⟩
set_option maxHeartbeats 8000000 in
theorem shadow_yes (lat az sl h n m : Int) (w : World) (l0 : -324000 ≤ lat) (l1 : lat ≤ 324000) (h0 : 1 ≤ h) (h1 : h ≤ 10000) (z0 : 0 ≤ az) (z1 : az ≤ 1295999) (y0 : -324000 ≤ sl) (y1 : sl ≤ 324000) (n0 : -1000000 ≤ n) (n1 : n ≤ 1000000) (m0 : 0 ≤ m) (m1 : m ≤ 1439) (k : shB az sl h (suV lat (deI n).lo (deI n).hi m) = true) :
    Calls Tryz.prog 62 #[(.agg #[.int .i64 (lat), .int .i64 (az), .int .i64 (sl), .int .i64 (h)]), .int .i64 n, .int .i64 m] w fun e w' => e = .returned (.tuple #[(.agg #[.int .i64 ((spP h (paV az sl (suV lat (deI n).lo (deI n).hi m))).x.lo), .int .i64 ((spP h (paV az sl (suV lat (deI n).lo (deI n).hi m))).x.hi), .int .i64 ((spP h (paV az sl (suV lat (deI n).lo (deI n).hi m))).y.lo), .int .i64 ((spP h (paV az sl (suV lat (deI n).lo (deI n).hi m))).y.hi)]), .bool true]) ∧ Below w.heap.size w w' := by
  have dd := deI_bd n
  have su := fun w => sunAt_any lat (deI n).lo (deI n).hi m w l0 l1 (by omega) (by omega) (by omega) (by omega) m0 m1
  obtain ⟨a0, a1, a2, b0, b1, b2, c0, c1, c2⟩ := suV_bd lat (deI n).lo (deI n).hi m
  have so := fun w => shadowOf_yes lat h az sl (suV lat (deI n).lo (deI n).hi m) w h0 h1 z0 z1 y0 y1 a0 a1 a2 b0 b1 b2 c0 c1 c2 k
  generalize spP h (paV az sl (suV lat (deI n).lo (deI n).hi m)) = r at so ⊢
  generalize suV lat (deI n).lo (deI n).hi m = v at su so
  have SU := Lib.hid su; have SO := Lib.hid so; clear su so k a0 a1 a2 b0 b1 b2 c0 c1 c2
  go_enter Tryz.func62, Tryz.ntmps62
  go_wp2_with fail
  have ho : ((w.alloc (.cells #[.int .i64 lat, .int .i64 az, .int .i64 sl, .int .i64 h] 30)).alloc (.cells #[.int .i64 0, .int .i64 0, .int .i64 0, .int .i64 0] 36)).heap[w.heap.size + 1]? = some (.cells #[.int .i64 0, .int .i64 0, .int .i64 0, .int .i64 0] 36) := by
    have := heap_alloc_new (w.alloc (.cells #[.int .i64 lat, .int .i64 az, .int .i64 sl, .int .i64 h] 30)) (.cells #[.int .i64 0, .int .i64 0, .int .i64 0, .int .i64 0] 36)
    simpa using this
  have HO := Lib.hid ho; clear ho
  refine wp_region_bx2 11 (some (w.heap.size + 1)) _ (fun w' => w'.cell? ⟨w.heap.size, 0, none⟩ = some (.int .i64 (lat)) ∧ w'.cell? ⟨w.heap.size, 1, none⟩ = some (.int .i64 (az)) ∧ w'.cell? ⟨w.heap.size, 2, none⟩ = some (.int .i64 (sl)) ∧ w'.cell? ⟨w.heap.size, 3, none⟩ = some (.int .i64 (h))) (by kernel_rfl) (by kernel_rfl) (by rfl) (fun b hb => by injection hb with hb; subst hb; exact HO.out) (fun w' hw' => ?_) (fun hS => ?_)
  focus exact ⟨hw'.cell (a := ⟨w.heap.size, 0, none⟩) (by go_simp) (by first | (simp; done) | (simp; omega)), hw'.cell (a := ⟨w.heap.size, 1, none⟩) (by go_simp) (by first | (simp; done) | (simp; omega)), hw'.cell (a := ⟨w.heap.size, 2, none⟩) (by go_simp) (by first | (simp; done) | (simp; omega)), hw'.cell (a := ⟨w.heap.size, 3, none⟩) (by go_simp) (by first | (simp; done) | (simp; omega))⟩
  have HS := Lib.hid hS; clear hS
  simp only [List.take_succ_cons, List.take_zero, List.drop_succ_cons, List.drop_zero]
  repeat (first | (refine wpBx_op ?_ (fun K hK => ?_); (focus exact fun _ => rfl); apply Exists.intro; refine ⟨fun γ w' hw' => ?_, ?_⟩; (focus (first | (go_simp; first | (go_at_call 80; exact declination_any _ _ n0 n1) | (go_at_call 82; exact SU.out _) | (go_at_call 81; exact SO.out _)) | (obtain ⟨kr0, kr1, kr2, kr3⟩ := HS.out w' hw'; go_simp; rfl))); go_simp; refine hK _ ?_; clear hK K) | (apply wpBx_own (b := w.heap.size + 1) rfl rfl; (case hw => (focus exact fun _ => rfl)); intro K hK; apply Exists.intro; refine ⟨fun γ w' hw' hx => ?_, ?_⟩; (focus (have HX := Lib.hid hx; obtain ⟨cx, fx, zx⟩ := blk_facts hx; clear hx; obtain ⟨kr0, kr1, kr2, kr3⟩ := HS.out w' hw'; go_simp; (repeat apply PutW.set); exact PutW.refl HX.out)); go_simp; refine hK _ _ ?_; clear hK K) | (refine wpBx_no ?_ (fun K hK => ?_); (focus exact fun _ => rfl); go_simp; refine hK _ ?_; clear hK K))
  refine wpBx_end ?_
  intro γ w1 gr_w1 ho_w1
  refine TailX_nil ?_
  (try dsimp only)
  clear γ
  have ho_w1 := ho_w1 _ rfl
  simp only [Option.getD_some] at ho_w1
  have oh_w1 := Lib.hid ho_w1
  obtain ⟨cgo_w1, fgo_w1, zgo_w1⟩ := blk_facts ho_w1
  have z_w1 := gr_w1.size
  simp at z_w1
  have b_w1 := Lib.hid gr_w1
  clear ho_w1 gr_w1
  have y0_w1 : w.heap.size < w1.heap.size := (by omega)
  have y1_w1 : w.heap.size + 1 < w1.heap.size := (by omega)
  have k1_0_w1 : w1.cell? ⟨w.heap.size + 1, 0, none⟩ = some (.int .i64 (r.x.lo)) := (by first | exact b_w1.out.cell (by go_simp) (by first | (simp; done) | (simp; omega)) | go_simp)
  have l1_0_w1 : w1.frozen? ⟨w.heap.size + 1, 0, none⟩ = false := (by first | exact (f_w1 _ _ (by omega)).trans (by go_simp) | go_simp)
  have k1_1_w1 : w1.cell? ⟨w.heap.size + 1, 1, none⟩ = some (.int .i64 (r.x.hi)) := (by first | exact b_w1.out.cell (by go_simp) (by first | (simp; done) | (simp; omega)) | go_simp)
  have l1_1_w1 : w1.frozen? ⟨w.heap.size + 1, 1, none⟩ = false := (by first | exact (f_w1 _ _ (by omega)).trans (by go_simp) | go_simp)
  have k1_2_w1 : w1.cell? ⟨w.heap.size + 1, 2, none⟩ = some (.int .i64 (r.y.lo)) := (by first | exact b_w1.out.cell (by go_simp) (by first | (simp; done) | (simp; omega)) | go_simp)
  have l1_2_w1 : w1.frozen? ⟨w.heap.size + 1, 2, none⟩ = false := (by first | exact (f_w1 _ _ (by omega)).trans (by go_simp) | go_simp)
  have k1_3_w1 : w1.cell? ⟨w.heap.size + 1, 3, none⟩ = some (.int .i64 (r.y.hi)) := (by first | exact b_w1.out.cell (by go_simp) (by first | (simp; done) | (simp; omega)) | go_simp)
  have l1_3_w1 : w1.frozen? ⟨w.heap.size + 1, 3, none⟩ = false := (by first | exact (f_w1 _ _ (by omega)).trans (by go_simp) | go_simp)
  clear cgo_w1 fgo_w1
  clear HS
  go_simp
  go_wp2
  exact bodyPost_ret (v := .tuple #[(.agg #[.int .i64 (r.x.lo), .int .i64 (r.x.hi), .int .i64 (r.y.lo), .int .i64 (r.y.hi)]), .bool true]) (by simp [results, Tryz.results62, go_sem, *]) rfl ⟨rfl, Below.trans (b := ((w.alloc (.cells #[.int .i64 lat, .int .i64 az, .int .i64 sl, .int .i64 h] 30)).alloc (.cells #[.int .i64 0, .int .i64 0, .int .i64 0, .int .i64 0] 36)).drew) (by (repeat' (first | with_reducible exact Below.refl _ _ | with_reducible assumption | with_reducible refine Below.setCell ?_ ?_ _ | with_reducible refine Below.drew ?_ | with_reducible refine below_drewN ?_ _ | with_reducible refine Below.alloc ?_ ?_ _ | with_reducible refine below_step (by assumption) ?_ ?_ | omega | exact Below.size (by assumption) | (simp; done) | (simp; omega)))) (below_of_own b_w1.out (by omega) (by simp; omega))⟩


end Go.Proofs.YteooegliepbcnaaGreat
