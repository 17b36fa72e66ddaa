/- How arguments that hold nothing but 64-bit integers are read, and the last step of a law's row. -/
import Derived.Test.YteooegliepbcnaaGreatRows
import Derived.WalkKit
import Derived.ProofKit
import Derived.OpenShut
import Derived.Lib.SmallJoins
namespace Go.Proofs.YteooegliepbcnaaGreat
set_option linter.unusedVariables false
set_option linter.unusedSimpArgs false
set_option maxRecDepth 10000
open Go.ChangeShapes Go.WideShapes Go.ChangeAt Go.RowKit

def tilesI (P : Program) : List Field → Nat → Nat → Bool
  | [], off, n => off == n
  | f :: r, off, n => f.offset == off && tilesI P r (off + P.cellsOf f.type) n
/-- The type's cells are 64-bit integers, all of them. -/
def i64Ty (P : Program) : Nat → TypeId → Bool
  | 0, _ => false
  | k + 1, t => match P.underlying t with
    | some (.int .i64) => true
    | some (.struct fs) => tilesI P fs.toList 0 (P.cellsOf t) && fs.toList.all fun f => i64Ty P k f.type
    | _ => false

theorem tilesI_cover {P : Program} : ∀ (fs : List Field) (off n : Nat), tilesI P fs off n = true → ∀ j, off ≤ j → j < n → ∃ f ∈ fs, f.offset ≤ j ∧ j < f.offset + P.cellsOf f.type
  | [], off, n, h, j, h1, h2 => by simp [tilesI] at h; omega
  | f :: r, off, n, h, j, h1, h2 => by
    simp [tilesI] at h
    by_cases hj : j < off + P.cellsOf f.type
    · exact ⟨f, by simp, by omega, by omega⟩
    · obtain ⟨g, hg, h3⟩ := tilesI_cover r _ n h.2 j (by omega) h2
      exact ⟨g, by simp [hg], h3⟩

section
variable {H : Type} {enc : TypeId × Value → H} {P : Program} {w : World} {base : Nat} {spare : Nat → Bool} {held : Bool}

theorem trod_i64 : ∀ (k fuel : Nat) (t : TypeId) (cs : List Value) (x : DataW H × List MemPlace), i64Ty P k t = true → DataW.trod enc P w base spare held fuel t cs = some x →
    x.2 = [] ∧ ∀ c ∈ cs, ∃ n, c = .int .i64 n ∧ (Lit.int .i64 n).wf = true
  | 0, _, _, _, _, h, _ => by simp [i64Ty] at h
  | k + 1, fuel, t, cs, x, h, hx => by
    simp only [i64Ty] at h
    split at h
    · rename_i ht
      obtain ⟨n, rfl, rfl, hw⟩ := DataW.trod_int ht hx
      exact ⟨rfl, fun c hc => ⟨n, by simpa using hc, hw⟩⟩
    · rename_i fs ht
      simp only [Bool.and_eq_true, List.all_eq_true] at h
      obtain ⟨xs, n, _, rfl, hlen, hxs, hf⟩ := DataW.trod_struct ht hx
      have hall : ∀ (i : Nat) (f : Field), fs[i]? = some f → ∃ y : DataW H × List MemPlace, xs[i]? = some y ∧ y.2 = [] ∧ ∀ c ∈ (cs.drop f.offset).take (P.cellsOf f.type), ∃ n, c = .int .i64 n ∧ (Lit.int .i64 n).wf = true := by
        intro i f hfi
        have hlt : i < fs.size := (Array.getElem?_eq_some_iff.1 hfi).1
        have hy : xs[i]? = some (xs[i]'(by omega)) := List.getElem?_eq_getElem (by omega)
        have hmem : f ∈ fs.toList := by
          have := (Array.getElem?_eq_some_iff.1 hfi).2
          rw [← this]; simp
        have := trod_i64 k n f.type _ _ (h.2 f hmem) ((hf i f hfi).trans hy)
        exact ⟨_, hy, this.1, this.2⟩
      constructor
      · show xs.flatMap (·.2) = []
        rw [List.flatMap_eq_nil_iff]
        intro y hy
        obtain ⟨i, hi, rfl⟩ := List.mem_iff_getElem.1 hy
        obtain ⟨z, hz, hz2, _⟩ := hall i (fs[i]'(by omega)) (Array.getElem?_eq_getElem (by omega))
        rw [List.getElem?_eq_getElem hi] at hz
        injection hz with hz
        rw [hz]; exact hz2
      · intro c hc
        obtain ⟨j, hj, rfl⟩ := List.mem_iff_getElem.1 hc
        obtain ⟨f, hfm, h1, h2⟩ := tilesI_cover _ _ _ h.1 j (Nat.zero_le _) (by omega)
        obtain ⟨i, hi, rfl⟩ := List.mem_iff_getElem.1 hfm
        have hi' : i < fs.size := by simpa using hi
        obtain ⟨z, _, _, hz⟩ := hall i (fs[i]'hi') (Array.getElem?_eq_getElem hi')
        refine hz _ ?_
        simp only [Array.getElem_toList] at h1 h2
        rw [List.mem_iff_getElem?]
        refine ⟨j - fs[i].offset, ?_⟩
        rw [List.getElem?_take, if_pos (by omega), List.getElem?_drop, show fs[i].offset + (j - fs[i].offset) = j from by omega]
        exact List.getElem?_eq_getElem hj
    · cases h

/-- Such a reading hangs on no world. -/
theorem trod_i64_any {w' : World} {base' : Nat} {spare' : Nat → Bool} {held' : Bool} : ∀ (k fuel : Nat) (t : TypeId) (cs : List Value), i64Ty P k t = true →
    DataW.trod enc P w base spare held fuel t cs = DataW.trod enc P w' base' spare' held' fuel t cs
  | 0, _, _, _, h => by simp [i64Ty] at h
  | k + 1, 0, _, _, _ => by simp [DataW.trod]
  | k + 1, fuel + 1, t, cs, h => by
    simp only [i64Ty] at h
    split at h
    · rename_i ht
      unfold DataW.trod
      rw [ht]
      rcases cs with _ | ⟨c, _ | ⟨c', cs⟩⟩
      · rfl
      · cases c <;> rfl
      · cases c <;> rfl
    · rename_i fs ht
      simp only [Bool.and_eq_true, List.all_eq_true] at h
      unfold DataW.trod
      rw [ht]
      have e : (fs.toList.mapM fun f => DataW.trod enc P w base spare held fuel f.type ((cs.drop f.offset).take (P.cellsOf f.type))) =
          (fs.toList.mapM fun f => DataW.trod enc P w' base' spare' held' fuel f.type ((cs.drop f.offset).take (P.cellsOf f.type))) := by
        have : ∀ (l : List Field), (∀ f ∈ l, i64Ty P k f.type = true) → (l.mapM fun f => DataW.trod enc P w base spare held fuel f.type ((cs.drop f.offset).take (P.cellsOf f.type))) =
            (l.mapM fun f => DataW.trod enc P w' base' spare' held' fuel f.type ((cs.drop f.offset).take (P.cellsOf f.type))) := by
          intro l
          induction l with
          | nil => intro _; rfl
          | cons f r ih =>
            intro hl
            simp only [List.mapM_cons]
            rw [trod_i64_any k fuel f.type _ (hl f (by simp)), ih fun g hg => hl g (by simp [hg])]
        exact this _ h.2
      simp only [e]
    · cases h

theorem Trod_i64_any {w' : World} {base' : Nat} {spare' : Nat → Bool} {held' : Bool} {k : Nat} {t : TypeId} {v : Value} {d : DataW H} {p : List MemPlace} (h : i64Ty P k t = true)
    (hd : DataW.Trod enc P w base spare held t v d p) : DataW.Trod enc P w' base' spare' held' t v d p := by
  obtain ⟨fuel, hf⟩ := hd
  exact ⟨fuel, (trod_i64_any k fuel t _ h).symm.trans hf⟩

/-- A struct of 64-bit integers, opened: no places, n cells, each an integer in its range. -/
theorem open_i64s {r : Reach} {b0 k : Nat} {t : TypeId} {fs : Array Field} {v : Value} {d : DataW H} {p : List MemPlace} (hs : P.underlying t = some (.struct fs)) (hk : i64Ty P k t = true)
    (hv : Value.okWide P w r b0 t v) (h : DataW.Trod enc P w base spare held t v d p) :
    p = [] ∧ ∃ cs, v = .agg cs ∧ cs.size = P.cellsOf t ∧ ∀ c ∈ cs.toList, ∃ n, c = .int .i64 n ∧ (Lit.int .i64 n).wf = true := by
  obtain ⟨cs, rfl, hsz⟩ := okWide_struct hs hv
  obtain ⟨fuel, hf⟩ := h
  have := trod_i64 k fuel t _ _ hk hf
  exact ⟨this.1, cs, rfl, hsz, this.2⟩

theorem ints2 {cs : Array Value} (hs : cs.size = 2) (h : ∀ c ∈ cs.toList, ∃ n, c = .int .i64 n ∧ (Lit.int .i64 n).wf = true) : ∃ a b, cs = #[.int .i64 a, .int .i64 b] ∧ (Lit.int .i64 a).wf = true ∧ (Lit.int .i64 b).wf = true := by
  obtain ⟨l⟩ := cs
  match l, hs with
  | [x, y], _ =>
    obtain ⟨a, rfl, ha⟩ := h x (by simp)
    obtain ⟨b, rfl, hb⟩ := h y (by simp)
    exact ⟨a, b, rfl, ha, hb⟩
theorem ints4 {cs : Array Value} (hs : cs.size = 4) (h : ∀ c ∈ cs.toList, ∃ n, c = .int .i64 n ∧ (Lit.int .i64 n).wf = true) : ∃ a b c d, cs = #[.int .i64 a, .int .i64 b, .int .i64 c, .int .i64 d] ∧ (Lit.int .i64 a).wf = true ∧ (Lit.int .i64 b).wf = true ∧ (Lit.int .i64 c).wf = true ∧ (Lit.int .i64 d).wf = true := by
  obtain ⟨l⟩ := cs
  match l, hs with
  | [x, y, z, u], _ =>
    obtain ⟨a, rfl, ha⟩ := h x (by simp)
    obtain ⟨b, rfl, hb⟩ := h y (by simp)
    obtain ⟨c, rfl, hc⟩ := h z (by simp)
    obtain ⟨d, rfl, hd⟩ := h u (by simp)
    exact ⟨a, b, c, d, rfl, ha, hb, hc, hd⟩
theorem ints5 {cs : Array Value} (hs : cs.size = 5) (h : ∀ c ∈ cs.toList, ∃ n, c = .int .i64 n ∧ (Lit.int .i64 n).wf = true) : ∃ a b c d e, cs = #[.int .i64 a, .int .i64 b, .int .i64 c, .int .i64 d, .int .i64 e] ∧ (Lit.int .i64 a).wf = true ∧ (Lit.int .i64 b).wf = true ∧ (Lit.int .i64 c).wf = true ∧ (Lit.int .i64 d).wf = true ∧ (Lit.int .i64 e).wf = true := by
  obtain ⟨l⟩ := cs
  match l, hs with
  | [x, y, z, u, v], _ =>
    obtain ⟨a, rfl, ha⟩ := h x (by simp)
    obtain ⟨b, rfl, hb⟩ := h y (by simp)
    obtain ⟨c, rfl, hc⟩ := h z (by simp)
    obtain ⟨d, rfl, hd⟩ := h u (by simp)
    obtain ⟨e, rfl, he⟩ := h v (by simp)
    exact ⟨a, b, c, d, e, rfl, ha, hb, hc, hd, he⟩
theorem ints6 {cs : Array Value} (hs : cs.size = 6) (h : ∀ c ∈ cs.toList, ∃ n, c = .int .i64 n ∧ (Lit.int .i64 n).wf = true) : ∃ a b c d e f, cs = #[.int .i64 a, .int .i64 b, .int .i64 c, .int .i64 d, .int .i64 e, .int .i64 f] ∧ (Lit.int .i64 a).wf = true ∧ (Lit.int .i64 b).wf = true ∧ (Lit.int .i64 c).wf = true ∧ (Lit.int .i64 d).wf = true ∧ (Lit.int .i64 e).wf = true ∧ (Lit.int .i64 f).wf = true := by
  obtain ⟨l⟩ := cs
  match l, hs with
  | [x, y, z, u, v, t], _ =>
    obtain ⟨a, rfl, ha⟩ := h x (by simp)
    obtain ⟨b, rfl, hb⟩ := h y (by simp)
    obtain ⟨c, rfl, hc⟩ := h z (by simp)
    obtain ⟨d, rfl, hd⟩ := h u (by simp)
    obtain ⟨e, rfl, he⟩ := h v (by simp)
    obtain ⟨f, rfl, hf⟩ := h t (by simp)
    exact ⟨a, b, c, d, e, f, rfl, ha, hb, hc, hd, he, hf⟩

/-- The row's last step where of the world behind the call 'Below' alone is known. -/
theorem post_of_below {f : Func} {s : ChangeSpec} {apart fresh handsOn again : Bool} {W W' : World} {args : Array Value} {v : Value} {ds gs : List (DataW H)} {before pa pv : List MemPlace}
    (hW : DataW.Whole enc P f.params.toList s.vars apart W args.toList ds gs before)
    (hres : ∀ (b : Nat) (sp : Nat → Bool) (hd : Bool), DataW.TrodAll enc P W' b sp hd f.resultTypes.toList (v.resultList f.resultTypes.size) (s.fn H (ds ++ gs)).results [])
    (hargs : ∀ sp : Nat → Bool, (∀ p ∈ before, sp p.block = true) → DataW.TrodAll enc P W' 0 sp true f.params.toList args.toList (s.fn H (ds ++ gs)).args pa)
    (hvars : ∀ sp : Nat → Bool, (∀ p ∈ before, sp p.block = true) → DataW.TrodVars enc P W' sp s.vars (s.fn H (ds ++ gs)).vars pv)
    (hps : before = pa ++ pv) (hb : Below W.heap.size W W')
    (hok : ∀ (j : Nat) (t : TypeId) (r : Value), f.resultTypes[j]? = some t → (v.resultList f.resultTypes.size)[j]? = some r → Value.okWide P W' .any 0 t r) :
    s.post enc P f apart fresh handsOn again W args v W' := by
  have hlt : ∀ p ∈ before, p.block < W.heap.size := fun p hp => hW.lt p hp
  have hold : ∀ p ∈ before, (fun b => decide (b < W.heap.size)) p.block = true := fun p hp => by simpa using hlt p hp
  refine ⟨ds, gs, before, [], pa, pv, hW, hres _ _ _, hargs _ hold, hvars _ hold, World.keptBut_mono (fun p hp => ⟨hp, ?_⟩) (hb.frame (· ∈ before)), fun _ => ?_⟩
  · rw [hps, List.mem_append] at hp
    exact Or.inr hp
  · obtain ⟨_, _, _, _, _, hz, hn⟩ := hW
    refine ⟨hok, _, _, ([] ++ pa) ++ pv, ⟨[] ++ pa, pv, trodAll_append (hargs _ (fun _ _ => rfl)) (hres _ _ _), hvars _ (fun _ _ => rfl), rfl, ?_, ?_⟩, ?_⟩
    · intro b off hp
      have hin : MemPlace.cell b off ∈ before := by rw [hps]; simpa using hp
      rw [hb.frozen (hlt _ hin)]
      exact hz b off hin
    · intro ha
      have := hn ha
      rw [hps] at this
      simpa using this
    · intro p hp _
      rw [hps]
      simpa using hp
end
theorem prog_own : ownKnob Tryz.prog.godebug = none := by kernel_rfl

end Go.Proofs.YteooegliepbcnaaGreat
