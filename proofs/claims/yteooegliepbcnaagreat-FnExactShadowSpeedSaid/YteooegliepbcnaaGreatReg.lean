/- A region that draws its order of evaluation, whose first n operations read what was there before, call functions that only make memory, or make memory, and whose last operations come one behind the other: one walk in the text's order serves every order. -/
import Derived.Test.YteooegliepbcnaaGreatKit
import Derived.StillTail
import Derived.Laws.Rows
import Derived.Laws.OwnMore
import Derived.Deep.Draws
namespace Go.Proofs.YteooegliepbcnaaGreat
set_option linter.unusedVariables false
set_option linter.unusedSimpArgs false
set_option maxRecDepth 10000
open Go.RowKit

/-- What one operation yields: a value, the world as it was or (a call) grown; or new memory. -/
inductive Kd where
  | val (v : Value)
  | new (vf : Nat → Value) (obj : Obj)
def Kd.rv : Kd → Nat → Value
  | .val v, _ => v
  | .new vf _, g => vf g

def bqUpon (P : Program) (w : World) (v : Value) : Result Next → Prop
  | .ok (.value u) w' => w' = w ∧ u = v
  | .ok .skip w' => w' = w ∧ v = undef
  | .ok (.enter f args) w' => w' = w ∧ Calls P f args w (fun e w'' => e = .returned v ∧ Below w.heap.size w w'')
  | _ => False
def makes (o : Oper) : Bool := match o.op with
  | .alloc .. => true
  | .box .. => true
  | .buildSlice .. => true
  | _ => false

section
variable {P : Program} {ops : Array Oper} {md : Region.Mode} {W0 : World}

def HeadOk (P : Program) (ops : Array Oper) (W0 : World) (o : Oper) (a : Act) : Kd → Prop
  | .val v => makes o = false ∧ ((Region.wanted o (yielded ops a.tmps) = true ∧ ∀ w, Below W0.heap.size W0 w → bqUpon P w v ((execOp a.eval o).run P w)) ∨
      (Region.wanted o (yielded ops a.tmps) = false ∧ v = undef))
  | .new vf obj => makes o = true ∧ Region.wanted o (yielded ops a.tmps) = true ∧ ∀ w, (execOp a.eval o).run P w = .ok (.value (vf w.heap.size)) (w.alloc obj)

/-- The tail's frame and world: each new block has got its number. -/
def TailW (W0 : World) (T : Act → World → Prop) : List (Option Tmp × (Nat → Value) × Obj) → List Nat → Act → World → Prop
  | [], _, a, w => T a w
  | (d, vf, o) :: r, gs, a, w => ∀ g, W0.heap.size ≤ g → w.heap[g]? = some o → (∀ x ∈ gs, x ≠ g) → TailW W0 T r (gs ++ [g]) (a.put d (vf g)) w

/-- The walk in the text's order. -/
def wpBl (P : Program) (ops : Array Oper) (W0 : World) (T : Act → World → Prop) : List Oper → List (Option Tmp × (Nat → Value) × Obj) → Act → Prop
  | [], acc, a => ∀ w, Below W0.heap.size W0 w → TailW W0 T acc [] a w
  | o :: r, acc, a => ∃ kd, HeadOk P ops W0 o a kd ∧ wpBl P ops W0 T r (match kd with | .val _ => acc | .new vf obj => acc ++ [(o.dst, vf, obj)]) (a.put o.dst (kd.rv 0))

theorem wpBl_val {T : Act → World → Prop} {o : Oper} {r : List Oper} {acc : List (Option Tmp × (Nat → Value) × Obj)} {a : Act} (hm : makes o = false) (hw : Region.wanted o (yielded ops a.tmps) = true) (v : Value)
    (h : ∀ w, Below W0.heap.size W0 w → bqUpon P w v ((execOp a.eval o).run P w)) (hr : wpBl P ops W0 T r acc (a.put o.dst v)) : wpBl P ops W0 T (o :: r) acc a :=
  ⟨.val v, ⟨hm, .inl ⟨hw, h⟩⟩, hr⟩
theorem wpBl_skip {T : Act → World → Prop} {o : Oper} {r : List Oper} {acc : List (Option Tmp × (Nat → Value) × Obj)} {a : Act} (hm : makes o = false) (hw : Region.wanted o (yielded ops a.tmps) = false)
    (hr : wpBl P ops W0 T r acc (a.put o.dst undef)) : wpBl P ops W0 T (o :: r) acc a :=
  ⟨.val undef, ⟨hm, .inr ⟨hw, rfl⟩⟩, hr⟩
theorem wpBl_new {T : Act → World → Prop} {o : Oper} {r : List Oper} {acc : List (Option Tmp × (Nat → Value) × Obj)} {a : Act} (hm : makes o = true) (hw : Region.wanted o (yielded ops a.tmps) = true) (vf : Nat → Value) (obj : Obj)
    (h : ∀ w, (execOp a.eval o).run P w = .ok (.value (vf w.heap.size)) (w.alloc obj)) (hr : wpBl P ops W0 T r (acc ++ [(o.dst, vf, obj)]) (a.put o.dst (vf 0))) : wpBl P ops W0 T (o :: r) acc a :=
  ⟨.new vf obj, ⟨hm, hw, h⟩, hr⟩

/-- The operations' places, and which looks at which. -/
def indepB (md : Region.Mode) (ops : Array Oper) (n : Nat) : Bool :=
  (List.range n).all fun i => (List.range n).all fun j => decide (i = j) || (match ops[i]?, ops[j]? with
    | some oi, some oj => match oi.dst with
      | some d => oj.dst != some d && (!(oj.looksAt ops).contains d || (!makes oi && ((decide (i < j) && Region.waitsFor md ops j i) || (decide (j < i) && Region.waitsFor md ops i j))))
      | none => true
    | _, _ => false)
def ordB (md : Region.Mode) (ops : Array Oper) (n : Nat) : Bool :=
  (List.range n).all fun i => match ops[i]? with
    | some o => o.after.all fun e => !Region.binds md e || decide (e.on < i)
    | none => false
def fullB (n m : Nat) : Array Bool := Array.replicate n true ++ Array.replicate (m - n) false
def regB (md : Region.Mode) (ops : Array Oper) (n : Nat) : Bool :=
  Region.noSelect ops && decide (n < ops.size) && Region.sinkB md ops n && Region.chainB md ops n && Region.seqB md ops (ops.size - n) n (fullB n ops.size) && indepB md ops n && ordB md ops n

theorem indep_spec {n i j : Nat} {oi oj : Oper} {d : Tmp} (h : indepB md ops n = true) (hi : i < n) (hj : j < n) (hne : i ≠ j) (h1 : ops[i]? = some oi) (h2 : ops[j]? = some oj) (hd : oi.dst = some d) :
    oj.dst ≠ some d ∧ (d ∈ oj.looksAt ops → makes oi = false ∧ ((i < j ∧ Region.waitsFor md ops j i = true) ∨ (j < i ∧ Region.waitsFor md ops i j = true))) := by
  have h' := List.all_eq_true.1 (List.all_eq_true.1 h i (List.mem_range.2 hi)) j (List.mem_range.2 hj)
  simp only [h1, h2, hd, decide_eq_false hne, Bool.false_or, Bool.and_eq_true, Bool.or_eq_true, Bool.not_eq_true', decide_eq_true_eq] at h'
  refine ⟨by simpa using h'.1, fun hm => ?_⟩
  rcases h'.2 with h3 | h3
  · simp [hm] at h3
  · exact h3

/-- The slots of a frame. -/
def slot (a : Act) (d : Tmp) : Value := a.tmps.getD d undef
theorem slot_put (a : Act) (x : Option Tmp) (v : Value) (d : Tmp) (h : ∀ e, x = some e → e < a.tmps.size) : slot (a.put x v) d = if x = some d then v else slot a d := by
  cases x with
  | none => simp [slot, Act.put]
  | some e =>
    have := h e rfl
    unfold slot Act.put
    by_cases he : e = d
    · subst he; simp [this]
    · simp [Array.getElem?_setIfInBounds_ne he, he]
theorem put_size (a : Act) (x : Option Tmp) (v : Value) : (a.put x v).tmps.size = a.tmps.size := by cases x <;> simp [Act.put]
theorem put_defers' (a : Act) (x : Option Tmp) (v : Value) : (a.put x v).defers = a.defers := by cases x <;> rfl
theorem act_ext {a b : Act} (hs : a.tmps.size = b.tmps.size) (hd : a.defers = b.defers) (h : ∀ d, slot a d = slot b d) : a = b := by
  obtain ⟨t, e⟩ := a
  obtain ⟨t', e'⟩ := b
  simp only at hs hd
  subst hd
  have : t = t' := Array.ext hs fun i h1 h2 => by
    have := h i
    simp only [slot, Array.getD_eq_getD_getElem?, Array.getElem?_eq_getElem h1, Array.getElem?_eq_getElem h2, Option.getD_some] at this
    exact this
  rw [this]

theorem exec_agree (o : Oper) (hs : ∀ cs b, o.op ≠ .select cs b) {a b : Act} (h : ∀ d ∈ o.looksAt ops, slot a d = slot b d) : execOp a.eval o = execOp b.eval o := by
  refine execOp_congr o hs fun x hx => ?_
  cases x with
  | tmp t =>
    have := h t (List.mem_append_left _ (List.mem_filterMap.2 ⟨.tmp t, by simpa using hx, rfl⟩))
    simpa [Act.eval, slot] using this
  | _ => rfl
theorem wanted_agree (o : Oper) {a b : Act} (hz : a.tmps.size = b.tmps.size) (h : ∀ d ∈ o.looksAt ops, slot a d = slot b d) : Region.wanted o (yielded ops a.tmps) = Region.wanted o (yielded ops b.tmps) := by
  unfold Region.wanted
  cases hg : o.guard with
  | none => rfl
  | some gw =>
    obtain ⟨g, want⟩ := gw
    have hy : yielded ops a.tmps g = yielded ops b.tmps g := by
      unfold yielded
      cases ht : (ops[g]?).bind (·.dst) with
      | none => rfl
      | some t =>
        have := h t (by simp [Oper.looksAt, hg, ht])
        unfold slot at this
        simp only [Option.bind_some]
        by_cases hlt : t < a.tmps.size
        · have hlt' : t < b.tmps.size := hz ▸ hlt
          simp only [Array.getD_eq_getD_getElem?, Array.getElem?_eq_getElem hlt, Array.getElem?_eq_getElem hlt', Option.getD_some] at this ⊢
          rw [this]
        · rw [Array.getElem?_eq_none (Nat.le_of_not_lt hlt), Array.getElem?_eq_none (hz ▸ Nat.le_of_not_lt hlt)]
    simp only [hy]

/-- How many of the first k are not listed. -/
def unl (L : Array Bool) : Nat → Nat
  | 0 => 0
  | k + 1 => unl L k + if L.getD k true then 0 else 1
theorem unl_same {L L' : Array Bool} : ∀ k, (∀ j, j < k → L.getD j true = L'.getD j true) → unl L k = unl L' k
  | 0, _ => rfl
  | k + 1, h => by rw [unl, unl, unl_same k fun j hj => h j (by omega), h k (by omega)]
theorem unl_set {L : Array Bool} {i : Nat} (hi : L.getD i true = false) : ∀ k, i < k → unl L k = unl (L.setIfInBounds i true) k + 1
  | 0, h => by omega
  | k + 1, h => by
    have hlt : i < L.size := by
      rcases Nat.lt_or_ge i L.size with h' | h'
      · exact h'
      · simp [Array.getElem?_eq_none h'] at hi
    by_cases hik : i = k
    · subst hik
      rw [unl, unl, unl_same (L := L) (L' := L.setIfInBounds i true) i fun j hj => (getD_set_ne true (by omega)).symm, hi]
      simp [hlt]
    · rw [unl, unl, unl_set hi k (by omega), getD_set_ne true hik]; omega
theorem unl_zero {L : Array Bool} : ∀ k, unl L k = 0 → ∀ j, j < k → L.getD j true = true
  | 0, _, j, hj => by omega
  | k + 1, h, j, hj => by
    rw [unl] at h
    by_cases hjk : j = k
    · subst hjk
      cases e : L.getD j true
      · rw [e] at h; simp at h
      · rfl
    · exact unl_zero k (by omega) j (by omega)
theorem unl_pos {L : Array Bool} : ∀ k, 0 < unl L k → ∃ j, j < k ∧ L.getD j true = false ∧ ∀ i, i < j → L.getD i true = true
  | 0, h => by simp [unl] at h
  | k + 1, h => by
    rw [unl] at h
    by_cases h0 : 0 < unl L k
    · obtain ⟨j, h1, h2, h3⟩ := unl_pos k h0
      exact ⟨j, by omega, h2, h3⟩
    · have hz : unl L k = 0 := by omega
      refine ⟨k, by omega, ?_, unl_zero k hz⟩
      cases e : L.getD k true
      · rfl
      · rw [e, hz] at h; simp at h

/-- What the walk in the text's order has shown: each operation's kind, at the frame before it. -/
theorem wpBl_kinds {T : Act → World → Prop} : ∀ (l : List Oper) (acc : List (Option Tmp × (Nat → Value) × Obj)) (a : Act), wpBl P ops W0 T l acc a →
    ∃ (kd : Nat → Kd) (pre : Nat → Act), pre 0 = a ∧ (∀ i o, l[i]? = some o → HeadOk P ops W0 o (pre i) (kd i) ∧ pre (i + 1) = (pre i).put o.dst ((kd i).rv 0)) ∧
      ∀ w, Below W0.heap.size W0 w → TailW W0 T (acc ++ (List.range l.length).filterMap fun i => match kd i, l[i]? with | .new vf obj, some o => some (o.dst, vf, obj) | _, _ => none) [] (pre l.length) w
  | [], acc, a, h => ⟨fun _ => .val undef, fun _ => a, rfl, fun i o hi => by simp at hi, fun w hw => by simpa using h w hw⟩
  | o :: r, acc, a, h => by
    obtain ⟨k, hk, hr⟩ := h
    obtain ⟨kd, pre, h0, h1, h2⟩ := wpBl_kinds r _ _ hr
    refine ⟨fun i => match i with | 0 => k | j + 1 => kd j, fun i => match i with | 0 => a | j + 1 => pre j, rfl, fun i o' hi => ?_, fun w hw => ?_⟩
    · cases i with
      | zero =>
        obtain rfl : o = o' := by simpa using hi
        exact ⟨hk, h0⟩
      | succ j => exact h1 j o' (by simpa using hi)
    · have := h2 w hw
      rw [List.length_cons, List.range_succ_eq_map, List.filterMap_cons, List.filterMap_map]
      cases k with
      | val v => exact this
      | new vf obj => rw [List.append_assoc] at this; exact this

/-- The frame in the midst of the region, whatever order was drawn: the slots of what is listed hold what it yields; all others are as they were. -/
structure Mid (md : Region.Mode) (ops : Array Oper) (n : Nat) (W0 : World) (kd : Nat → Kd) (a0 : Act) (listed : Array Bool) (gs : Nat → Nat) (a : Act) (w : World) : Prop where
  inv : HeadInv md ops n listed
  size : a.tmps.size = a0.tmps.size
  defers : a.defers = a0.defers
  done : ∀ i o d, i < n → ops[i]? = some o → listed.getD i true = true → o.dst = some d → slot a d = (kd i).rv (gs i)
  rest : ∀ d, (∀ i o, i < n → ops[i]? = some o → listed.getD i true = true → o.dst ≠ some d) → slot a d = slot a0 d
  below : Below W0.heap.size W0 w
  blocks : ∀ i vf obj, i < n → listed.getD i true = true → kd i = .new vf obj → W0.heap.size ≤ gs i ∧ w.heap[gs i]? = some obj
  apart : ∀ i j vf vf' obj obj', i < n → j < n → i ≠ j → listed.getD i true = true → listed.getD j true = true → kd i = .new vf obj → kd j = .new vf' obj' → gs i ≠ gs j

section
variable {n : Nat} {kd : Nat → Kd} {pre : Nat → Act} {a0 : Act} {listed : Array Bool} {gs : Nat → Nat} {a : Act} {w : World}

theorem kd_val {o : Oper} {x : Act} {k : Kd} (h : HeadOk P ops W0 o x k) (hm : makes o = false) : ∃ v, k = .val v := by
  cases k with
  | val v => exact ⟨v, rfl⟩
  | new vf obj => rw [h.1] at hm; cases hm

theorem pre_slots (hB : indepB md ops n = true) (hn : n < ops.size) (hD : ∀ i o d, i < n → ops[i]? = some o → o.dst = some d → d < a0.tmps.size)
    (h0 : pre 0 = a0) (hk : ∀ i o, i < n → ops[i]? = some o → HeadOk P ops W0 o (pre i) (kd i) ∧ pre (i + 1) = (pre i).put o.dst ((kd i).rv 0)) :
    ∀ j, j ≤ n → (pre j).tmps.size = a0.tmps.size ∧ (pre j).defers = a0.defers ∧ (∀ i o d, i < j → ops[i]? = some o → o.dst = some d → slot (pre j) d = (kd i).rv 0) ∧
      (∀ d, (∀ i o, i < j → ops[i]? = some o → o.dst ≠ some d) → slot (pre j) d = slot a0 d)
  | 0, _ => by
    rw [h0]
    exact ⟨rfl, rfl, fun i o d hi => absurd hi (Nat.not_lt_zero _), fun d _ => rfl⟩
  | j + 1, hj => by
    obtain ⟨i1, i2, i3, i4⟩ := pre_slots hB hn hD h0 hk j (by omega)
    have hoj : ops[j]? = some (ops[j]'(by omega)) := Array.getElem?_eq_getElem (by omega)
    obtain ⟨_, hp⟩ := hk j _ (by omega) hoj
    rw [hp]
    have hr : ∀ e, (ops[j]'(by omega)).dst = some e → e < (pre j).tmps.size := fun e he => by rw [i1]; exact hD j _ e (by omega) hoj he
    refine ⟨by rw [put_size, i1], by rw [put_defers', i2], fun i o d hi ho hd => ?_, fun d hd => ?_⟩
    · rw [slot_put _ _ _ _ hr]
      by_cases hij : i = j
      · subst hij
        obtain rfl : ops[i] = o := Option.some.inj (hoj.symm.trans ho)
        rw [if_pos hd]
      · rw [if_neg (indep_spec hB (by omega) (by omega) hij ho hoj hd).1]
        exact i3 i o d (by omega) ho hd
    · rw [slot_put _ _ _ _ hr, if_neg (hd j _ (by omega) hoj)]
      exact i4 d fun i o hi ho => hd i o (by omega) ho

theorem waits_listed {i j : Nat} (hj : j ∈ Region.ready md ops listed) (hw : Region.waitsFor md ops j i = true) : listed.getD i false = true := by
  obtain ⟨oj, hoj, e, he, hb, hon⟩ := Region.waitsFor_spec hw
  obtain ⟨_, o, ho, hall⟩ := mem_ready.1 hj
  obtain rfl : oj = o := Option.some.inj (hoj.symm.trans ho)
  rw [← hon]; exact hall e he hb
theorem getD_tf {L : Array Bool} {i : Nat} (h : L.getD i false = true) : L.getD i true = true := by
  rcases Nat.lt_or_ge i L.size with h' | h'
  · simp [h'] at h ⊢; exact h
  · simp [Array.getElem?_eq_none h'] at h
theorem getD_ft {L : Array Bool} {i : Nat} (hi : i < L.size) (h : L.getD i true = true) : L.getD i false = true := by
  simp [hi] at h ⊢; exact h

theorem Mid.agree (M : Mid md ops n W0 kd a0 listed gs a w) (hB : indepB md ops n = true) (hn : n < ops.size) (hD : ∀ i o d, i < n → ops[i]? = some o → o.dst = some d → d < a0.tmps.size)
    (h0 : pre 0 = a0) (hk : ∀ i o, i < n → ops[i]? = some o → HeadOk P ops W0 o (pre i) (kd i) ∧ pre (i + 1) = (pre i).put o.dst ((kd i).rv 0))
    {j : Nat} {oj : Oper} (hj : j ∈ Region.ready md ops listed) (hjn : j < n) (hoj : ops[j]? = some oj) : ∀ d ∈ oj.looksAt ops, slot a d = slot (pre j) d := by
  intro d hd
  obtain ⟨_, _, p3, p4⟩ := pre_slots hB hn hD h0 hk j (by omega)
  have hun := (mem_ready.1 hj).1
  by_cases h : ∃ i oi, i < n ∧ ops[i]? = some oi ∧ oi.dst = some d
  · obtain ⟨i, oi, hi, hoi, hdi⟩ := h
    have uniq : ∀ i' o', i' < n → ops[i']? = some o' → i' ≠ i → o'.dst ≠ some d := fun i' o' h1 h2 h3 => (indep_spec hB hi h1 (Ne.symm h3) hoi h2 hdi).1
    by_cases hij : i = j
    · subst hij
      rw [M.rest d fun i' o' h1 h2 h3 => uniq i' o' h1 h2 (fun e => by subst e; rw [hun] at h3; cases h3), p4 d fun i' o' h1 h2 => uniq i' o' (by omega) h2 (by omega)]
    · obtain ⟨hmk, hdep⟩ := (indep_spec hB hi hjn hij hoi hoj hdi).2 hd
      rcases hdep with ⟨hlt, hw⟩ | ⟨hlt, hw⟩
      · have hl := getD_tf (waits_listed hj hw)
        rw [M.done i oi d hi hoi hl hdi, p3 i oi d hlt hoi hdi]
        obtain ⟨v, hv⟩ := kd_val (hk i oi hi hoi).1 hmk
        rw [hv]; rfl
      · have hnl : listed.getD i true = false := by
          cases e : listed.getD i true with
          | false => rfl
          | true =>
            obtain ⟨o', ho', x, hx, hb, hon⟩ := Region.waitsFor_spec hw
            have := M.inv.closed i o' ho' (getD_ft (by rw [M.inv.size]; omega) e) x hx hb
            rw [hon, getD_both hun] at this; cases this
        rw [M.rest d fun i' o' h1 h2 h3 => uniq i' o' h1 h2 (fun e => by subst e; rw [hnl] at h3; cases h3), p4 d fun i' o' h1 h2 => uniq i' o' (by omega) h2 (by omega)]
  · rw [M.rest d fun i' o' h1 h2 _ h3 => h ⟨i', o', h1, h2, h3⟩, p4 d fun i' o' h1 h2 h3 => h ⟨i', o', by omega, h2, h3⟩]

theorem heap_lt {w : World} {g : Nat} {o : Obj} (h : w.heap[g]? = some o) : g < w.heap.size := (Array.getElem?_eq_some_iff.1 h).1

theorem Mid.step (M : Mid md ops n W0 kd a0 listed gs a w) (hB : indepB md ops n = true) (hD : ∀ i o d, i < n → ops[i]? = some o → o.dst = some d → d < a0.tmps.size)
    {j : Nat} {oj : Oper} (hj : j ∈ Region.ready md ops listed) (hjn : j < n) (hoj : ops[j]? = some oj) {w' : World} (hb : Below w.heap.size w w') (g : Nat)
    (hnew : ∀ vf obj, kd j = .new vf obj → g = w.heap.size ∧ w'.heap[g]? = some obj) :
    Mid md ops n W0 kd a0 (listed.setIfInBounds j true) (fun i => if i = j then g else gs i) (a.put oj.dst ((kd j).rv g)) w' := by
  have hun := (mem_ready.1 hj).1
  have hr : ∀ e, oj.dst = some e → e < a.tmps.size := fun e he => by rw [M.size]; exact hD j _ e hjn hoj he
  have hset : ∀ i, (listed.setIfInBounds j true).getD i true = true → i = j ∨ (i ≠ j ∧ listed.getD i true = true) := fun i hi => by
    by_cases h : i = j
    · exact .inl h
    · rw [getD_set_ne true (Ne.symm h)] at hi; exact .inr ⟨h, hi⟩
  refine ⟨M.inv.set hj hjn, by rw [put_size, M.size], by rw [put_defers', M.defers], fun i o d hi ho hl hd => ?_, fun d hd => ?_, below_step hb M.below M.below.size, fun i vf obj hi hl hkd => ?_, fun i k vf vf' obj obj' hi hk' hne hli hlk h1 h2 => ?_⟩
  · rw [slot_put _ _ _ _ hr]
    rcases hset i hl with rfl | ⟨hne, hl'⟩
    · obtain rfl : oj = o := Option.some.inj (hoj.symm.trans ho)
      rw [if_pos hd, if_pos rfl]
    · rw [if_neg (indep_spec hB hi hjn hne ho hoj hd).1, if_neg hne]
      exact M.done i o d hi ho hl' hd
  · rw [slot_put _ _ _ _ hr, if_neg (hd j oj hjn hoj (by
      have hlt : j < listed.size := by rw [M.inv.size]; exact (Array.getElem?_eq_some_iff.1 hoj).1
      simp [hlt]))]
    refine M.rest d fun i o hi ho hl => hd i o hi ho ?_
    by_cases h : i = j
    · subst h; rw [hun] at hl; cases hl
    · rw [getD_set_ne true (Ne.symm h)]; exact hl
  · rcases hset i hl with rfl | ⟨hne, hl'⟩
    · obtain ⟨h1, h2⟩ := hnew vf obj hkd
      simp only [if_pos]
      exact ⟨by rw [h1]; exact M.below.size, h2⟩
    · obtain ⟨h1, h2⟩ := M.blocks i vf obj hi hl' hkd
      simp only [if_neg hne]
      exact ⟨h1, by rw [hb.block _ (heap_lt h2)]; exact h2⟩
  · rcases hset i hli with rfl | ⟨hni, hli'⟩
    · rcases hset k hlk with rfl | ⟨hnk, hlk'⟩
      · exact absurd rfl hne
      · have := heap_lt (M.blocks k vf' obj' hk' hlk' h2).2
        have := (hnew vf obj h1).1
        simp only [if_pos, if_neg hnk]; omega
    · rcases hset k hlk with rfl | ⟨hnk, hlk'⟩
      · have := heap_lt (M.blocks i vf obj hi hli' h1).2
        have := (hnew vf' obj' h2).1
        simp only [if_pos, if_neg hni]; omega
      · simp only [if_neg hni, if_neg hnk]
        exact M.apart i k vf vf' obj obj' hi hk' hne hli' hlk' h1 h2
end

theorem wpAny_of_mid {n : Nat} {kd : Nat → Kd} {pre : Nat → Act} {a0 : Act} {l : List Oper} {Q : Exit → Act → World → Prop} (hl : l.toArray = ops) (hB : regB md ops n = true)
    (hD : ∀ i o d, i < n → ops[i]? = some o → o.dst = some d → d < a0.tmps.size)
    (h0 : pre 0 = a0) (hk : ∀ i o, i < n → ops[i]? = some o → HeadOk P ops W0 o (pre i) (kd i) ∧ pre (i + 1) = (pre i).put o.dst ((kd i).rv 0))
    (hT : ∀ gs a w, Mid md ops n W0 kd a0 (fullB n ops.size) gs a w → wpList P ops Q (l.drop n) a w) :
    ∀ (f : Nat) (listed : Array Bool) (gs : Nat → Nat) (a : Act) (w : World), unl listed n = f → Mid md ops n W0 kd a0 listed gs a w → wpAny P md ops Q (f + (ops.size - n)) listed a w := by
  simp only [regB, Bool.and_eq_true, decide_eq_true_eq] at hB
  obtain ⟨⟨⟨⟨⟨⟨hsel, hn⟩, hs⟩, hc⟩, hseq⟩, hind⟩, hord⟩ := hB
  have hdl : (l.drop n).length = ops.size - n := by subst hl; simp
  intro f
  induction f with
  | zero =>
    intro listed gs a w hu M
    have hL : listed = fullB n ops.size := by
      refine Array.ext (by rw [M.inv.size]; simp [fullB]; omega) fun i h1 h2 => ?_
      have hd : listed.getD i true = listed[i] := by simp [h1]
      have he : (fullB n ops.size)[i] = decide (i < n) := by
        simp only [fullB]
        rw [Array.getElem_append]
        split <;> rename_i hh <;> simp at hh <;> simp <;> omega
      rw [he, ← hd]
      by_cases hin : i < n
      · rw [unl_zero n hu i hin]; simp [hin]
      · rw [M.inv.tail i (by omega) (by rw [← M.inv.size]; exact h1)]; simp [hin]
    subst hL
    rw [Nat.zero_add, ← hdl]
    exact wpAny_of_seq (l.drop n) n _ a w (fun j => by subst hl; simp [List.getElem?_drop]) (by rw [hdl]; exact hseq) (hT gs a w M)
  | succ f ih =>
    intro listed gs a w hu M
    rw [show f + 1 + (ops.size - n) = (f + (ops.size - n)) + 1 by omega]
    obtain ⟨j0, hj0, hun0, hmin⟩ := unl_pos n (by rw [hu]; omega)
    refine ⟨fun hr => ?_, fun i hi => ?_⟩
    · have : j0 ∈ Region.ready md ops listed := by
        refine mem_ready.2 ⟨hun0, _, Array.getElem?_eq_getElem (by omega), fun e he hb => ?_⟩
        have := List.all_eq_true.1 hord j0 (List.mem_range.2 hj0)
        rw [Array.getElem?_eq_getElem (by omega)] at this
        have h1 := Array.all_eq_true_iff_forall_mem.1 this e he
        simp only [hb, Bool.not_true, Bool.false_or, decide_eq_true_eq] at h1
        exact getD_ft (by rw [M.inv.size]; omega) (hmin _ h1)
      rw [hr] at this; cases this
    · have hin : i < n := by
        rcases Nat.lt_or_ge i n with h | h
        · exact h
        · exact absurd hi (tail_waits hs hc hn M.inv _ j0 rfl hj0 hun0 i h)
      have hun := (mem_ready.1 hi).1
      obtain ⟨_, o, ho, _⟩ := mem_ready.1 hi
      have hu' : unl (listed.setIfInBounds i true) n = f := by have := unl_set hun n hin; omega
      have hag := M.agree hind hn hD h0 hk hi hin ho
      have hsz : a.tmps.size = (pre i).tmps.size := by rw [M.size, (pre_slots hind hn hD h0 hk i (by omega)).1]
      have he := exec_agree (ops := ops) o (fun cs b => Region.noSelect_spec hsel i o cs b ho) hag
      have hw := wanted_agree o hsz hag
      have hh := (hk i o hin ho).1
      unfold wpOp
      simp only [ho, hw]
      cases hkd : kd i with
      | val v =>
        rw [hkd] at hh
        obtain ⟨_, ⟨hw1, hq⟩ | ⟨hw1, rfl⟩⟩ := hh
        · rw [if_pos hw1]
          refine .inl ?_
          have h3 := hq w M.below
          unfold Oper.wp
          rw [he]
          have next : ∀ w', Below w.heap.size w w' → wpAny P md ops Q (f + (ops.size - n)) (listed.setIfInBounds i true) (a.put o.dst v) w' := fun w' hb => by
            have := ih _ _ _ w' hu' (M.step hind hD hi hin ho hb 0 (fun vf obj h => by rw [hkd] at h; cases h))
            rw [hkd] at this; exact this
          generalize (execOp (pre i).eval o).run P w = r at *
          cases r with
          | ok nx w' =>
            cases nx <;> simp only [bqUpon] at h3 <;> simp only [Oper.upon]
            case value u =>
              obtain ⟨e1, e2⟩ := h3
              rw [e1, e2]; exact next _ (Below.refl _ _)
            case skip =>
              obtain ⟨e1, e2⟩ := h3
              rw [e1, ← e2]; exact next _ (Below.refl _ _)
            case enter g args =>
              obtain ⟨e1, hc⟩ := h3
              rw [e1]
              exact hc.mono fun e w'' ⟨h4, h5⟩ => by subst h4; exact next _ h5
          | halt x w' => simp only [bqUpon] at h3
        · rw [hw1]
          have := ih _ _ _ w hu' (M.step hind hD hi hin ho (Below.refl _ _) 0 (fun vf obj h => by rw [hkd] at h; cases h))
          rw [hkd] at this; exact this
      | new vf obj =>
        rw [hkd] at hh
        obtain ⟨_, hw1, hq⟩ := hh
        rw [if_pos hw1]
        refine .inl ?_
        unfold Oper.wp
        rw [he, hq w]
        have := ih _ _ _ (w.alloc obj) hu' (M.step hind hD hi hin ho ((Below.refl _ _).alloc (Nat.le_refl _) _) w.heap.size (fun vf' obj' h => by
          rw [hkd] at h
          injection h with h1 h2
          subst h2
          exact ⟨rfl, heap_alloc_new w _⟩))
        rw [hkd] at this; exact this

/-- The tail, from its walk with every new block's number open. -/
theorem tail_of_TailW {n : Nat} {kd : Nat → Kd} {a0 : Act} {T : Act → World → Prop} {gs : Nat → Nat} {a : Act} {w : World} {F : Nat → Option (Option Tmp × (Nat → Value) × Obj)}
    (M : Mid md ops n W0 kd a0 (fullB n ops.size) gs a w) (hfull : ∀ i, i < n → (fullB n ops.size).getD i true = true) (hB : indepB md ops n = true)
    (hD : ∀ i o d, i < n → ops[i]? = some o → o.dst = some d → d < a0.tmps.size)
    (hF : ∀ i, i < n → ∃ o, ops[i]? = some o ∧ F i = match kd i with | .new vf obj => some (o.dst, vf, obj) | _ => none) :
    ∀ (I : List Nat) (gl : List Nat) (x : Act), (∀ i ∈ I, i < n) → I.Nodup → (∀ g ∈ gl, ∃ i vf obj, i < n ∧ i ∉ I ∧ kd i = .new vf obj ∧ g = gs i) → x.tmps.size = a0.tmps.size → x.defers = a0.defers →
      (∀ d, (∃ i o vf obj, i ∈ I ∧ ops[i]? = some o ∧ kd i = .new vf obj ∧ o.dst = some d) ∨ slot x d = slot a d) → TailW W0 T (I.filterMap F) gl x w → T a w
  | [], gl, x, _, _, _, hz, hdf, hs, h => by
    have : x = a := act_ext (by rw [hz, M.size]) (by rw [hdf, M.defers]) fun d => by
      rcases hs d with ⟨i, _, _, _, hi, _⟩ | h
      · cases hi
      · exact h
    subst this; exact h
  | i :: I, gl, x, hI, hnd, hgl, hz, hdf, hs, h => by
    have hin := hI i (by simp)
    obtain ⟨o, ho, hFi⟩ := hF i hin
    have hnd' := List.nodup_cons.1 hnd
    rw [List.filterMap_cons, hFi] at h
    cases hkd : kd i with
    | val v =>
      rw [hkd] at h
      refine tail_of_TailW M hfull hB hD hF I gl x (fun j hj => hI j (by simp [hj])) hnd'.2 (fun g hg => ?_) hz hdf (fun d => ?_) h
      · obtain ⟨j, vf, obj, h1, h2, h3, h4⟩ := hgl g hg
        exact ⟨j, vf, obj, h1, fun hj => h2 (by simp [hj]), h3, h4⟩
      · rcases hs d with ⟨j, oj, vf, obj, h1, h2, h3, h4⟩ | h'
        · rcases List.mem_cons.1 h1 with rfl | h1
          · rw [hkd] at h3; cases h3
          · exact .inl ⟨j, oj, vf, obj, h1, h2, h3, h4⟩
        · exact .inr h'
    | new vf obj =>
      rw [hkd] at h
      obtain ⟨hb1, hb2⟩ := M.blocks i vf obj hin (hfull i hin) hkd
      have h' := h (gs i) hb1 hb2 (fun g hg => by
        obtain ⟨j, vf', obj', h1, h2, h3, h4⟩ := hgl g hg
        rw [h4]
        exact M.apart j i vf' vf obj' obj h1 hin (fun e => h2 (by simp [e])) (hfull j h1) (hfull i hin) h3 hkd)
      have hr : ∀ e, o.dst = some e → e < x.tmps.size := fun e he => by rw [hz]; exact hD i o e hin ho he
      refine tail_of_TailW M hfull hB hD hF I (gl ++ [gs i]) _ (fun j hj => hI j (by simp [hj])) hnd'.2 (fun g hg => ?_) (by rw [put_size, hz]) (by rw [put_defers', hdf]) (fun d => ?_) h'
      · rcases List.mem_append.1 hg with hg | hg
        · obtain ⟨j, vf', obj', h1, h2, h3, h4⟩ := hgl g hg
          exact ⟨j, vf', obj', h1, fun hj => h2 (by simp [hj]), h3, h4⟩
        · obtain rfl : g = gs i := by simpa using hg
          exact ⟨i, vf, obj, hin, hnd'.1, hkd, rfl⟩
      · rw [slot_put _ _ _ _ hr]
        by_cases hd : o.dst = some d
        · refine .inr ?_
          rw [if_pos hd, M.done i o d hin ho (hfull i hin) hd, hkd]; rfl
        · rw [if_neg hd]
          rcases hs d with ⟨j, oj, vf', obj', h1, h2, h3, h4⟩ | h''
          · rcases List.mem_cons.1 h1 with rfl | h1
            · obtain rfl : o = oj := Option.some.inj (ho.symm.trans h2)
              exact absurd h4 hd
            · exact .inl ⟨j, oj, vf', obj', h1, h2, h3, h4⟩
          · exact .inr h''

/-- THE REGION: one walk in the text's order serves every order. -/
theorem wp_region_bl {id : Nat} {Q : Exit → Act → World → Prop} {a : Act} {w : World} {l : List Oper} (n : Nat) (hm : P.follows .mixedOrders = true) (hB : regB .any l.toArray n = true)
    (hD : ((l.take n).all fun o => match o.dst with | some d => decide (d < a.tmps.size) | none => true) = true)
    (h : wpBl P l.toArray w.drew (wpList P l.toArray Q (l.drop n)) (l.take n) [] a) : (Code.region id l.toArray true).wp P Q a w := by
  obtain ⟨kd, pre, h0, hk, hT⟩ := wpBl_kinds _ _ _ h
  have hB' := hB
  simp only [regB, Bool.and_eq_true, decide_eq_true_eq] at hB'
  obtain ⟨⟨⟨⟨⟨⟨hsel, hn⟩, hs⟩, hc⟩, hseq⟩, hind⟩, hord⟩ := hB'
  have hn' : n < l.length := by simpa using hn
  have htl : (l.take n).length = n := by simp; omega
  have hk' : ∀ i o, i < n → l.toArray[i]? = some o → HeadOk P l.toArray w.drew o (pre i) (kd i) ∧ pre (i + 1) = (pre i).put o.dst ((kd i).rv 0) := fun i o hi ho => hk i o (by
    rw [List.getElem?_take, if_pos hi]; simpa using ho)
  have hD' : ∀ i o d, i < n → l.toArray[i]? = some o → o.dst = some d → d < a.tmps.size := fun i o d hi ho hd => by
    have hmem : o ∈ l.take n := List.mem_of_getElem? (i := i) (by rw [List.getElem?_take, if_pos hi]; simpa using ho)
    have := List.all_eq_true.1 hD o hmem
    rw [hd] at this
    simpa using this
  have hfull : ∀ i, i < n → (fullB n l.toArray.size).getD i true = true := fun i hi => by
    simp [fullB, Array.getElem?_append, hi]
  refine wp_region_any hm ?_
  have M0 : Mid .any l.toArray n w.drew kd a (Array.replicate l.toArray.size false) (fun _ => 0) a w.drew := by
    have hf : ∀ i, i < n → (Array.replicate l.toArray.size false).getD i true = false := fun i hi => getD_in (by simp; omega) (getD_replicate_false _ _)
    exact ⟨⟨by simp, fun j oj _ hl => (by rw [getD_replicate_false] at hl; cases hl), fun t _ ht => getD_in (by simpa using ht) (getD_replicate_false _ _)⟩, rfl, rfl,
      fun i o d hi _ hl => (by rw [hf i hi] at hl; cases hl), fun d _ => rfl, Below.refl _ _, fun i _ _ hi hl => (by rw [hf i hi] at hl; cases hl), fun i _ _ _ _ _ hi _ _ hl => (by rw [hf i hi] at hl; cases hl)⟩
  have hu : unl (Array.replicate l.toArray.size false) n = n := by
    have : ∀ k, k ≤ l.toArray.size → unl (Array.replicate l.toArray.size false) k = k := by
      intro k
      induction k with
      | zero => intro _; rfl
      | succ k ih =>
        intro hk
        rw [unl, ih (by omega), getD_in (by simp at hk ⊢; omega) (getD_replicate_false _ _)]
        simp
    exact this n (by omega)
  have := wpAny_of_mid (Q := Q) (l := l) rfl hB hD' h0 hk' (fun gs a' w' M => ?_) n _ _ a w.drew hu M0
  · rw [show n + (l.toArray.size - n) = l.toArray.size by omega] at this
    exact this
  · obtain ⟨p1, p2, p3, p4⟩ := pre_slots hind hn hD' h0 hk' n (Nat.le_refl _)
    have ht := hT w' M.below
    rw [List.nil_append, htl] at ht
    refine tail_of_TailW (F := fun i => match kd i, (l.take n)[i]? with | .new vf obj, some o => some (o.dst, vf, obj) | _, _ => none) M hfull hind hD' (fun i hi => ?_) (List.range n) [] (pre n) (fun i hi => List.mem_range.1 hi) List.nodup_range (fun g hg => by cases hg) p1 p2 (fun d => ?_) ht
    · have hlt : i < l.length := by omega
      refine ⟨l[i], by simp [hlt], ?_⟩
      have : (l.take n)[i]? = some l[i] := by rw [List.getElem?_take, if_pos hi]; exact List.getElem?_eq_getElem hlt
      rw [this]
      cases kd i <;> rfl
    · by_cases hx : ∃ i o, i < n ∧ l.toArray[i]? = some o ∧ o.dst = some d
      · obtain ⟨i, o, hi, ho, hd⟩ := hx
        cases hkd : kd i with
        | new vf obj => exact .inl ⟨i, o, vf, obj, List.mem_range.2 hi, ho, hkd, hd⟩
        | val v =>
          refine .inr ?_
          rw [p3 i o d hi ho hd, M.done i o d hi ho (hfull i hi) hd, hkd]; rfl
      · refine .inr ?_
        rw [p4 d fun i o hi ho hd => hx ⟨i, o, hi, ho, hd⟩, M.rest d fun i o hi ho _ hd => hx ⟨i, o, hi, ho, hd⟩]
end

theorem wp_region_bl2 {P : Program} {id : Nat} {Q : Exit → Act → World → Prop} {a : Act} {w : World} {l : List Oper} (n : Nat) (S : World → Prop) (hm : P.follows .mixedOrders = true) (hB : regB .any l.toArray n = true)
    (hD : ((l.take n).all fun o => match o.dst with | some d => decide (d < a.tmps.size) | none => true) = true) (hS : ∀ w', Below w.drew.heap.size w.drew w' → S w')
    (h : (∀ w', Below w.drew.heap.size w.drew w' → S w') → wpBl P l.toArray w.drew (wpList P l.toArray Q (l.drop n)) (l.take n) [] a) : (Code.region id l.toArray true).wp P Q a w :=
  wp_region_bl n hm hB hD (h hS)

section
variable {P : Program} {ops : Array Oper} {W0 : World} {T : Act → World → Prop} {o : Oper} {r : List Oper} {acc : List (Option Tmp × (Nat → Value) × Obj)} {a : Act}
@[go_sem] theorem bqUpon_value (w : World) (u v : Value) : bqUpon P w v (.ok (.value u) w) = (u = v) := by simp [bqUpon]
@[go_sem] theorem bqUpon_skip (w : World) (v : Value) : bqUpon P w v (.ok .skip w) = (v = undef) := by simp [bqUpon]
@[go_sem] theorem bqUpon_enter (w : World) (v : Value) (f : FuncId) (args : Array Value) : bqUpon P w v (.ok (.enter f args) w) = Calls P f args w (fun e w'' => e = .returned v ∧ Below w.heap.size w w'') := by simp [bqUpon]
theorem calls_below {f : FuncId} {args : Array Value} {w : World} {v : Value} (h : Calls P f args w fun e w' => e = .returned v ∧ w = w') : Calls P f args w fun e w' => e = .returned v ∧ Below w.heap.size w w' :=
  h.mono fun _ _ ⟨h1, h2⟩ => ⟨h1, by subst h2; exact Below.refl _ _⟩
theorem wpBl_op (hm : makes o = false) (hw : Region.wanted o (yielded ops a.tmps) = true)
    (h : ∀ K : Act → Prop, (∀ a, wpBl P ops W0 T r acc a → K a) → ∃ v, (∀ w, Below W0.heap.size W0 w → bqUpon P w v ((execOp a.eval o).run P w)) ∧ K (a.put o.dst v)) : wpBl P ops W0 T (o :: r) acc a := by
  obtain ⟨v, h1, h2⟩ := h _ fun _ hh => hh
  exact wpBl_val hm hw v h1 h2
theorem wpBl_no (hm : makes o = false) (hw : Region.wanted o (yielded ops a.tmps) = false)
    (h : ∀ K : Act → Prop, (∀ a, wpBl P ops W0 T r acc a → K a) → K (a.put o.dst undef)) : wpBl P ops W0 T (o :: r) acc a :=
  wpBl_skip hm hw (h _ fun _ hh => hh)
theorem wpBl_mk (hm : makes o = true) (hw : Region.wanted o (yielded ops a.tmps) = true)
    (h : ∀ K : Act → (Nat → Value) → Obj → Prop, (∀ a vf obj, wpBl P ops W0 T r (acc ++ [(o.dst, vf, obj)]) a → K a vf obj) → ∃ vf obj, (∀ w, (execOp a.eval o).run P w = .ok (.value (vf w.heap.size)) (w.alloc obj)) ∧ K (a.put o.dst (vf 0)) vf obj) : wpBl P ops W0 T (o :: r) acc a := by
  obtain ⟨vf, obj, h1, h2⟩ := h _ fun _ _ _ hh => hh
  exact wpBl_new hm hw vf obj h1 h2
theorem wpBl_end (h : ∀ w, Below W0.heap.size W0 w → TailW W0 T acc [] a w) : wpBl P ops W0 T [] acc a := h
theorem TailW_nil {gs : List Nat} {w : World} (h : T a w) : TailW W0 T [] gs a w := h
theorem TailW_cons {d : Option Tmp} {vf : Nat → Value} {ob : Obj} {r : List (Option Tmp × (Nat → Value) × Obj)} {gs : List Nat} {w : World}
    (h : ∀ g, W0.heap.size ≤ g → w.heap[g]? = some ob → (∀ x ∈ gs, x ≠ g) → TailW W0 T r (gs ++ [g]) (a.put d (vf g)) w) : TailW W0 T ((d, vf, ob) :: r) gs a w := h
theorem blk_facts {w : World} {g : Nat} {cs : Array Value} {t : TypeId} (h : w.heap[g]? = some (.cells cs t)) : (∀ i, w.cell? ⟨g, i, none⟩ = cs[i]?) ∧ (∀ i, w.frozen? ⟨g, i, none⟩ = false) ∧ g < w.heap.size :=
  ⟨fun i => cell_of_row w g i cs t (0, 0) h, fun i => by simp [World.frozen?, h], heap_lt h⟩
end

end Go.Proofs.YteooegliepbcnaaGreat
