/- A region that draws its order of evaluation: as in the text on regions before, but operations may hang on the numbers of the new blocks, and a call may yield a new block. One walk in the text's order, the new blocks' numbers open, serves every order. -/
import Derived.Test.YteooegliepbcnaaGreatReg
namespace Go.Proofs.YteooegliepbcnaaGreat
set_option linter.unusedVariables false
set_option linter.unusedSimpArgs false
set_option maxRecDepth 10000
open Go.RowKit

/-- What one operation yields: a value; new memory (block γ j); a value that hangs on the number of the block that operation i has made. -/
inductive Kx where
  | val (v : Value)
  | new (vf : Nat → Value) (obj : Obj)
  | dep (i : Nat) (vf : Nat → Value)
  | put (i : Nat) (obj : Obj)
  | own (obj : Obj)
def Kx.rv (γ : Nat → Nat) (j : Nat) : Kx → Value
  | .val v => v
  | .new vf _ => vf (γ j)
  | .dep i vf => vf (γ i)
  | .put _ _ => undef
  | .own _ => undef

def newUpon (P : Program) (w : World) (vf : Nat → Value) (obj : Obj) : Result Next → Prop
  | .ok (.value u) w' => w' = w.alloc obj ∧ u = vf w.heap.size
  | .ok (.enter f args) w' => w' = w ∧ Calls P f args w (fun e w'' => ∃ g, e = .returned (vf g) ∧ w.heap.size ≤ g ∧ w''.heap[g]? = some obj ∧ Below w.heap.size w w'')
  | _ => False
def depUpon (w : World) (v : Value) : Result Next → Prop
  | .ok (.value u) w' => w' = w ∧ u = v
  | _ => False

/-- w' is w with block g filled anew. -/
structure PutW (w : World) (g : Nat) (obj : Obj) (w' : World) : Prop where
  os : w'.os = w.os
  tape : w'.tape = w.tape
  output : w'.output = w.output
  size : w'.heap.size = w.heap.size
  at_ : w'.heap[g]? = some obj
  other : ∀ k, k ≠ g → w'.heap[k]? = w.heap[k]?
theorem PutW.refl {w : World} {g : Nat} {obj : Obj} (h : w.heap[g]? = some obj) : PutW w g obj w := ⟨rfl, rfl, rfl, rfl, h, fun _ _ => rfl⟩
theorem PutW.set {w w' : World} {g : Nat} {cs : Array Value} {t : TypeId} (h : PutW w g (.cells cs t) w') (k : Nat) (v : Value) : PutW w g (.cells (cs.setIfInBounds k v) t) (w'.setCell ⟨g, k, none⟩ v) :=
  ⟨h.os, h.tape, h.output, by simp [h.size], heap_setCell_same w' g k cs t v h.at_, fun j hj => (heap_setCell_other w' ⟨g, k, none⟩ j v hj).trans (h.other j hj)⟩
def putUpon (w : World) (g : Nat) (obj : Obj) : Result Next → Prop
  | .ok .skip w' => PutW w g obj w'
  | .ok (.value u) w' => PutW w g obj w' ∧ u = undef
  | _ => False

section
variable {P : Program} {ops : Array Oper} {md : Region.Mode} {W0 : World}

/-- Does j wait for i, or for one that waits for i? -/
def depB (md : Region.Mode) (ops : Array Oper) (n j i : Nat) : Bool :=
  decide (i < n) && (Region.waitsFor md ops j i || (List.range n).any fun k => Region.waitsFor md ops j k && Region.waitsFor md ops k i)
def indepX (md : Region.Mode) (ops : Array Oper) (n : Nat) : Bool :=
  (List.range n).all fun i => (List.range n).all fun j => decide (i = j) || (match ops[i]?, ops[j]? with
    | some oi, some oj => match oi.dst with
      | some d => decide (oj.dst ≠ some d) && (!((oj.looksAt ops).contains d) || (decide (i < j) && Region.waitsFor md ops j i) || (decide (j < i) && Region.waitsFor md ops i j))
      | none => true
    | _, _ => true)
def regX (md : Region.Mode) (ops : Array Oper) (n : Nat) : Bool :=
  Region.noSelect ops && decide (n < ops.size) && Region.sinkB md ops n && Region.chainB md ops n && Region.seqB md ops (ops.size - n) n (fullB n ops.size) && indepX md ops n && ordB md ops n

theorem indepX_spec {n i j : Nat} {oi oj : Oper} {d : Tmp} (h : indepX md ops n = true) (hi : i < n) (hj : j < n) (hne : i ≠ j) (h1 : ops[i]? = some oi) (h2 : ops[j]? = some oj) (hd : oi.dst = some d) :
    oj.dst ≠ some d ∧ (d ∈ oj.looksAt ops → (i < j ∧ Region.waitsFor md ops j i = true) ∨ (j < i ∧ Region.waitsFor md ops i j = true)) := by
  have h' := List.all_eq_true.1 (List.all_eq_true.1 h i (List.mem_range.2 hi)) j (List.mem_range.2 hj)
  simp only [h1, h2, hd, decide_eq_false hne, Bool.false_or, Bool.and_eq_true, Bool.or_eq_true, Bool.not_eq_true', decide_eq_true_eq] at h'
  refine ⟨h'.1, fun hm => ?_⟩
  rcases h'.2 with (h3 | h3) | h3
  · simp [hm] at h3
  · exact .inl h3
  · exact .inr h3

def HeadX (P : Program) (md : Region.Mode) (ops : Array Oper) (n : Nat) (W0 : World) (row : Option Nat) (oo : Obj) (acc : List (Nat × Obj)) (ps ds : List Nat) (us : Option Obj) (o : Oper) (a : Act) (γ : Nat → Nat) (j : Nat) : Kx → Prop
  | .val v => (Region.wanted o (yielded ops a.tmps) = true ∧ ∀ w, W0.grownBy w row → bqUpon P w v ((execOp a.eval o).run P w)) ∨ (Region.wanted o (yielded ops a.tmps) = false ∧ v = undef)
  | .new vf obj => Region.wanted o (yielded ops a.tmps) = true ∧ ∀ w, W0.grownBy w row → newUpon P w vf obj ((execOp a.eval o).run P w)
  | .dep i vf => Region.wanted o (yielded ops a.tmps) = true ∧ depB md ops n j i = true ∧ i ∉ ps ∧ ∃ obj, (i, obj) ∈ acc ∧ ∀ w, W0.grownBy w row → w.heap[γ i]? = some obj → depUpon w (vf (γ i)) ((execOp a.eval o).run P w)
  | .put i obj' => Region.wanted o (yielded ops a.tmps) = true ∧ depB md ops n j i = true ∧ i ∉ ps ∧ i ∉ ds ∧ ∃ obj, (i, obj) ∈ acc ∧ ∀ w, W0.grownBy w row → w.heap[γ i]? = some obj → putUpon w (γ i) obj' ((execOp a.eval o).run P w)
  | .own obj' => Region.wanted o (yielded ops a.tmps) = true ∧ us = none ∧ ∃ b, row = some b ∧ ∀ w, W0.grownBy w row → w.heap[b]? = some oo → putUpon w b obj' ((execOp a.eval o).run P w)

def accX (acc : List (Nat × Obj)) (j : Nat) : Kx → List (Nat × Obj)
  | .new _ obj => acc ++ [(j, obj)]
  | .put i obj => acc.map fun p => if p.1 = i then (i, obj) else p
  | _ => acc
def psX (ps : List Nat) : Kx → List Nat
  | .put i _ => i :: ps
  | _ => ps
def usX (us : Option Obj) : Kx → Option Obj
  | .own obj => some obj
  | _ => us
def dsX (ds : List Nat) : Kx → List Nat
  | .dep i _ => i :: ds
  | _ => ds

/-- The walk in the text's order. -/
def wpBx (P : Program) (md : Region.Mode) (ops : Array Oper) (n : Nat) (W0 : World) (row : Option Nat) (oo : Obj) (T : List (Nat × Obj) → Option Obj → ((Nat → Nat) → Act) → Prop) : List Oper → Nat → List (Nat × Obj) → List Nat → List Nat → Option Obj → ((Nat → Nat) → Act) → Prop
  | [], _, acc, _, _, us, a => T acc us a
  | o :: r, j, acc, ps, ds, us, a => ∃ kd : Kx, (∀ γ, HeadX P md ops n W0 row oo acc ps ds us o (a γ) γ j kd) ∧ wpBx P md ops n W0 row oo T r (j + 1) (accX acc j kd) (psX ps kd) (dsX ds kd) (usX us kd) (fun γ => (a γ).put o.dst (kd.rv γ j))

theorem wpBx_kinds {n : Nat} {row : Option Nat} {oo : Obj} {T : List (Nat × Obj) → Option Obj → ((Nat → Nat) → Act) → Prop} : ∀ (l : List Oper) (j : Nat) (acc : List (Nat × Obj)) (ps ds : List Nat) (us : Option Obj) (a : (Nat → Nat) → Act), wpBx P md ops n W0 row oo T l j acc ps ds us a →
    ∃ (kd : Nat → Kx) (pre : (Nat → Nat) → Nat → Act) (accs : Nat → List (Nat × Obj)) (pss dss : Nat → List Nat) (uss : Nat → Option Obj), (∀ γ, pre γ 0 = a γ) ∧ (accs 0 = acc ∧ pss 0 = ps ∧ dss 0 = ds ∧ uss 0 = us) ∧
      (∀ i o, l[i]? = some o → (∀ γ, HeadX P md ops n W0 row oo (accs i) (pss i) (dss i) (uss i) o (pre γ i) γ (j + i) (kd i) ∧ pre γ (i + 1) = (pre γ i).put o.dst ((kd i).rv γ (j + i))) ∧ accs (i + 1) = accX (accs i) (j + i) (kd i) ∧ pss (i + 1) = psX (pss i) (kd i) ∧ dss (i + 1) = dsX (dss i) (kd i) ∧ uss (i + 1) = usX (uss i) (kd i)) ∧
      T (accs l.length) (uss l.length) (fun γ => pre γ l.length)
  | [], j, acc, ps, ds, us, a, h => ⟨fun _ => .val undef, fun γ _ => a γ, fun _ => acc, fun _ => ps, fun _ => ds, fun _ => us, fun _ => rfl, ⟨rfl, rfl, rfl, rfl⟩, fun i o hi => by simp at hi, h⟩
  | o :: r, j, acc, ps, ds, us, a, h => by
    obtain ⟨k, hk, hr⟩ := h
    obtain ⟨kd, pre, accs, pss, dss, uss, h0, ⟨h1, h1p, h1d, h1u⟩, h2, h3⟩ := wpBx_kinds r _ _ _ _ _ _ hr
    refine ⟨fun i => match i with | 0 => k | j + 1 => kd j, fun γ i => match i with | 0 => a γ | j + 1 => pre γ j, fun i => match i with | 0 => acc | j + 1 => accs j, fun i => match i with | 0 => ps | j + 1 => pss j, fun i => match i with | 0 => ds | j + 1 => dss j, fun i => match i with | 0 => us | j + 1 => uss j, fun _ => rfl, ⟨rfl, rfl, rfl, rfl⟩, fun i o' hi => ?_, h3⟩
    cases i with
    | zero =>
      obtain rfl : o = o' := by simpa using hi
      exact ⟨fun γ => ⟨hk γ, h0 γ⟩, h1, h1p, h1d, h1u⟩
    | succ i =>
      have := h2 i o' (by simpa using hi)
      rw [show j + (i + 1) = j + 1 + i by omega]
      exact this

theorem grown_step {row : Option Nat} {a b c : World} (h : a.grownBy b row) (k : Below b.heap.size b c) : a.grownBy c row :=
  ⟨k.os.trans h.os, k.tape.trans h.tape, k.output.trans h.output, Nat.le_trans h.size k.size, fun i hi hr => (k.block i (Nat.lt_of_lt_of_le hi h.size)).trans (h.block i hi hr)⟩

structure Mix (md : Region.Mode) (ops : Array Oper) (n : Nat) (W0 : World) (row : Option Nat) (oo : Obj) (kd : Nat → Kx) (a0 : Act) (listed : Array Bool) (gs : Nat → Nat) (a : Act) (w : World) : Prop where
  inv : HeadInv md ops n listed
  size : a.tmps.size = a0.tmps.size
  defers : a.defers = a0.defers
  done : ∀ i o d, i < n → ops[i]? = some o → listed.getD i true = true → o.dst = some d → slot a d = (kd i).rv gs i
  rest : ∀ d, (∀ i o, i < n → ops[i]? = some o → listed.getD i true = true → o.dst ≠ some d) → slot a d = slot a0 d
  below : W0.grownBy w row
  blocks : ∀ i vf obj, i < n → listed.getD i true = true → kd i = .new vf obj → W0.heap.size ≤ gs i ∧ gs i < w.heap.size ∧ ((∀ j obj', j < n → listed.getD j true = true → kd j ≠ .put i obj') → w.heap[gs i]? = some obj) ∧ (∀ j obj', j < n → listed.getD j true = true → kd j = .put i obj' → w.heap[gs i]? = some obj')
  apart : ∀ i j vf vf' obj obj', i < n → j < n → i ≠ j → listed.getD i true = true → listed.getD j true = true → kd i = .new vf obj → kd j = .new vf' obj' → gs i ≠ gs j
  deps : ∀ i i0 vf, i < n → listed.getD i true = true → kd i = .dep i0 vf → i0 < n ∧ listed.getD i0 true = true
  own_ : ∀ b, row = some b → b < W0.heap.size ∧ ((∀ j obj', j < n → listed.getD j true = true → kd j ≠ .own obj') → w.heap[b]? = some oo) ∧ (∀ j obj', j < n → listed.getD j true = true → kd j = .own obj' → w.heap[b]? = some obj')
  puts : ∀ i i0 obj, i < n → listed.getD i true = true → kd i = .put i0 obj → i0 < n ∧ listed.getD i0 true = true

section
variable {n : Nat} {row : Option Nat} {oo : Obj} {kd : Nat → Kx} {pre : (Nat → Nat) → Nat → Act} {accs : Nat → List (Nat × Obj)} {a0 : Act} {listed : Array Bool} {gs : Nat → Nat} {a : Act} {w : World}

theorem preX_slots (hB : indepX md ops n = true) (hn : n < ops.size) (hD : ∀ i o d, i < n → ops[i]? = some o → o.dst = some d → d < a0.tmps.size) (γ : Nat → Nat)
    (h0 : pre γ 0 = a0) (hk : ∀ i o, i < n → ops[i]? = some o → pre γ (i + 1) = (pre γ i).put o.dst ((kd i).rv γ i)) :
    ∀ j, j ≤ n → (pre γ j).tmps.size = a0.tmps.size ∧ (pre γ j).defers = a0.defers ∧ (∀ i o d, i < j → ops[i]? = some o → o.dst = some d → slot (pre γ j) d = (kd i).rv γ i) ∧
      (∀ d, (∀ i o, i < j → ops[i]? = some o → o.dst ≠ some d) → slot (pre γ j) d = slot a0 d)
  | 0, _ => by
    rw [h0]
    exact ⟨rfl, rfl, fun i o d hi => absurd hi (Nat.not_lt_zero _), fun d _ => rfl⟩
  | j + 1, hj => by
    obtain ⟨i1, i2, i3, i4⟩ := preX_slots hB hn hD γ h0 hk j (by omega)
    have hoj : ops[j]? = some (ops[j]'(by omega)) := Array.getElem?_eq_getElem (by omega)
    have hp := hk j _ (by omega) hoj
    rw [hp]
    have hr : ∀ e, (ops[j]'(by omega)).dst = some e → e < (pre γ j).tmps.size := fun e he => by rw [i1]; exact hD j _ e (by omega) hoj he
    refine ⟨by rw [put_size, i1], by rw [put_defers', i2], fun i o d hi ho hd => ?_, fun d hd => ?_⟩
    · rw [slot_put _ _ _ _ hr]
      by_cases hij : i = j
      · subst hij
        obtain rfl : ops[i] = o := Option.some.inj (hoj.symm.trans ho)
        rw [if_pos hd]
      · rw [if_neg (indepX_spec hB (by omega) (by omega) hij ho hoj hd).1]
        exact i3 i o d (by omega) ho hd
    · rw [slot_put _ _ _ _ hr, if_neg (hd j _ (by omega) hoj)]
      exact i4 d fun i o hi ho => hd i o (by omega) ho

theorem Mix.agree (M : Mix md ops n W0 row oo kd a0 listed gs a w) (hB : indepX md ops n = true) (hn : n < ops.size) (hD : ∀ i o d, i < n → ops[i]? = some o → o.dst = some d → d < a0.tmps.size)
    (h0 : pre gs 0 = a0) (hk : ∀ i o, i < n → ops[i]? = some o → pre gs (i + 1) = (pre gs i).put o.dst ((kd i).rv gs i))
    {j : Nat} {oj : Oper} (hj : j ∈ Region.ready md ops listed) (hjn : j < n) (hoj : ops[j]? = some oj) : ∀ d ∈ oj.looksAt ops, slot a d = slot (pre gs j) d := by
  intro d hd
  obtain ⟨_, _, p3, p4⟩ := preX_slots hB hn hD gs h0 hk j (by omega)
  have hun := (mem_ready.1 hj).1
  by_cases h : ∃ i oi, i < n ∧ ops[i]? = some oi ∧ oi.dst = some d
  · obtain ⟨i, oi, hi, hoi, hdi⟩ := h
    have uniq : ∀ i' o', i' < n → ops[i']? = some o' → i' ≠ i → o'.dst ≠ some d := fun i' o' h1 h2 h3 => (indepX_spec hB hi h1 (Ne.symm h3) hoi h2 hdi).1
    by_cases hij : i = j
    · subst hij
      rw [M.rest d fun i' o' h1 h2 h3 => uniq i' o' h1 h2 (fun e => by subst e; rw [hun] at h3; cases h3), p4 d fun i' o' h1 h2 => uniq i' o' (by omega) h2 (by omega)]
    · rcases (indepX_spec hB hi hjn hij hoi hoj hdi).2 hd with ⟨hlt, hw⟩ | ⟨hlt, hw⟩
      · have hl := getD_tf (waits_listed hj hw)
        rw [M.done i oi d hi hoi hl hdi, p3 i oi d hlt hoi hdi]
      · have hnl : listed.getD i true = false := by
          cases e : listed.getD i true with
          | false => rfl
          | true =>
            obtain ⟨o', ho', x, hx, hb, hon⟩ := Region.waitsFor_spec hw
            have := M.inv.closed i o' ho' (getD_ft (by rw [M.inv.size]; omega) e) x hx hb
            rw [hon, getD_both hun] at this; cases this
        rw [M.rest d fun i' o' h1 h2 h3 => uniq i' o' h1 h2 (fun e => by subst e; rw [hnl] at h3; cases h3), p4 d fun i' o' h1 h2 => uniq i' o' (by omega) h2 (by omega)]
  · rw [M.rest d fun i' o' h1 h2 _ h3 => h ⟨i', o', h1, h2, h3⟩, p4 d fun i' o' h1 h2 h3 => h ⟨i', o', by omega, h2, h3⟩]

/-- What a ready operation hangs on is listed. -/
theorem Mix.dep_listed (M : Mix md ops n W0 row oo kd a0 listed gs a w) (hn : n < ops.size) {j i : Nat} (hj : j ∈ Region.ready md ops listed) (hd : depB md ops n j i = true) : i < n ∧ listed.getD i true = true := by
  simp only [depB, Bool.and_eq_true, Bool.or_eq_true, decide_eq_true_eq, List.any_eq_true, List.mem_range] at hd
  obtain ⟨hi, hd⟩ := hd
  refine ⟨hi, ?_⟩
  rcases hd with hd | ⟨k, hk, h1, h2⟩
  · exact getD_tf (waits_listed hj hd)
  · have hl := waits_listed hj h1
    obtain ⟨o', ho', x, hx, hb, hon⟩ := Region.waitsFor_spec h2
    have := M.inv.closed k o' ho' hl x hx hb
    rw [hon] at this
    exact getD_tf this

theorem Mix.step (M : Mix md ops n W0 row oo kd a0 listed gs a w) (hB : indepX md ops n = true) (hD : ∀ i o d, i < n → ops[i]? = some o → o.dst = some d → d < a0.tmps.size)
    (hU : ∀ j j' i obj obj', j < n → j' < n → kd j = .put i obj → kd j' = .put i obj' → j = j') (hN : ∀ j i obj, j < n → kd j = .put i obj → ∃ vf obj, kd i = .new vf obj)
    {j : Nat} {oj : Oper} (hj : j ∈ Region.ready md ops listed) (hjn : j < n) (hoj : ops[j]? = some oj) {w' : World} (hO : ∀ j j' obj obj', j < n → j' < n → kd j = .own obj → kd j' = .own obj' → j = j') (hB0 : W0.grownBy w' row) (hsz : w.heap.size ≤ w'.heap.size)
    (hkeep : ∀ k, k < w.heap.size → (∀ i0 o', kd j = .put i0 o' → k ≠ gs i0) → (∀ o', kd j = .own o' → some k ≠ row) → w'.heap[k]? = w.heap[k]?) (hown : ∀ b o', kd j = .own o' → row = some b → w'.heap[b]? = some o') (g : Nat)
    (hnew : ∀ vf obj, kd j = .new vf obj → w.heap.size ≤ g ∧ w'.heap[g]? = some obj) (hdep : ∀ i0 vf, kd j = .dep i0 vf → i0 < n ∧ listed.getD i0 true = true)
    (hput : ∀ i0 o', kd j = .put i0 o' → i0 < n ∧ listed.getD i0 true = true ∧ w'.heap[gs i0]? = some o') :
    Mix md ops n W0 row oo kd a0 (listed.setIfInBounds j true) (fun i => if i = j then g else gs i) (a.put oj.dst ((kd j).rv (fun i => if i = j then g else gs i) j)) w' := by
  have hun := (mem_ready.1 hj).1
  have hr : ∀ e, oj.dst = some e → e < a.tmps.size := fun e he => by rw [M.size]; exact hD j _ e hjn hoj he
  have hset : ∀ i, (listed.setIfInBounds j true).getD i true = true → i = j ∨ (i ≠ j ∧ listed.getD i true = true) := fun i hi => by
    by_cases h : i = j
    · exact .inl h
    · rw [getD_set_ne true (Ne.symm h)] at hi; exact .inr ⟨h, hi⟩
  have hget : ∀ i, listed.getD i true = true → (listed.setIfInBounds j true).getD i true = true := fun i hi => by
    by_cases h : i = j
    · subst h; rw [hun] at hi; cases hi
    · rw [getD_set_ne true (Ne.symm h)]; exact hi
  have hrv : ∀ i, i < n → listed.getD i true = true → (kd i).rv (fun i => if i = j then g else gs i) i = (kd i).rv gs i := fun i hi hl => by
    have hij : i ≠ j := fun e => by subst e; rw [hun] at hl; cases hl
    cases hkd : kd i with
    | val v => rfl
    | new vf obj => simp only [Kx.rv, if_neg hij]
    | dep i0 vf =>
      have := (M.deps i i0 vf hi hl hkd).2
      have h0 : i0 ≠ j := fun e => by subst e; rw [hun] at this; cases this
      simp only [Kx.rv, if_neg h0]
    | put i0 obj => rfl
    | own obj => rfl
  refine ⟨M.inv.set hj hjn, by rw [put_size, M.size], by rw [put_defers', M.defers], fun i o d hi ho hl hd => ?_, fun d hd => ?_, hB0, fun i vf obj hi hl hkd => ?_, fun i k vf vf' obj obj' hi hk' hne hli hlk h1 h2 => ?_, fun i i0 vf hi hl hkd => ?_, fun b hb => ?_, fun i i0 obj hi hl hkd => ?_⟩
  · rw [slot_put _ _ _ _ hr]
    rcases hset i hl with rfl | ⟨hne, hl'⟩
    · obtain rfl : oj = o := Option.some.inj (hoj.symm.trans ho)
      rw [if_pos hd]
    · rw [if_neg (indepX_spec hB hi hjn hne ho hoj hd).1, hrv i hi hl']
      exact M.done i o d hi ho hl' hd
  · rw [slot_put _ _ _ _ hr, if_neg (hd j oj hjn hoj (by
      have hlt : j < listed.size := by rw [M.inv.size]; exact (Array.getElem?_eq_some_iff.1 hoj).1
      simp [hlt]))]
    exact M.rest d fun i o hi ho hl => hd i o hi ho (hget i hl)
  · rcases hset i hl with rfl | ⟨hne, hl'⟩
    · obtain ⟨h1, h2⟩ := hnew vf obj hkd
      simp only [if_pos]
      refine ⟨Nat.le_trans M.below.size h1, heap_lt h2, fun _ => h2, fun j' o' hj' hlj hkj => ?_⟩
      rcases hset j' hlj with rfl | ⟨_, hl2⟩
      · rw [hkd] at hkj; cases hkj
      · have := (M.puts j' i o' hj' hl2 hkj).2
        rw [hun] at this; cases this
    · obtain ⟨h1, h1', h2, h3⟩ := M.blocks i vf obj hi hl' hkd
      simp only [if_neg hne]
      have away : ∀ i0 o', kd j = .put i0 o' → i ≠ i0 → gs i ≠ gs i0 := fun i0 o' hk0 hi0 => by
        obtain ⟨vf0, obj0, hn0⟩ := hN j i0 o' hjn hk0
        obtain ⟨q1, q2, _⟩ := hput i0 o' hk0
        exact M.apart i i0 vf vf0 obj obj0 hi q1 hi0 hl' q2 hkd hn0
      refine ⟨h1, Nat.lt_of_lt_of_le h1' hsz, fun hno => ?_, fun j' o' hj' hlj hkj => ?_⟩
      · have h4 := h2 fun j' o' hj' hlj => hno j' o' hj' (hget j' hlj)
        rw [hkeep _ (heap_lt h4) (fun i0 o' hk0 => away i0 o' hk0 fun e => by
          subst e
          exact hno j o' hjn (by
            have hlt : j < listed.size := by rw [M.inv.size]; exact (Array.getElem?_eq_some_iff.1 hoj).1
            simp [hlt]) hk0) fun o' _ e => by
          have := (M.own_ (gs i) e.symm).1
          omega]
        exact h4
      · rcases hset j' hlj with rfl | ⟨hnj, hl2⟩
        · exact (hput i o' hkj).2.2
        · have h4 := h3 j' o' hj' hl2 hkj
          rw [hkeep _ (heap_lt h4) (fun i0 o'' hk0 => away i0 o'' hk0 fun e => by
            subst e
            exact hnj (hU j' j i o' o'' hj' hjn hkj hk0)) fun o'' _ e => by
            have := (M.own_ (gs i) e.symm).1
            omega]
          exact h4
  · rcases hset i hli with rfl | ⟨hni, hli'⟩
    · rcases hset k hlk with rfl | ⟨hnk, hlk'⟩
      · exact absurd rfl hne
      · have := (M.blocks k vf' obj' hk' hlk' h2).2.1
        have := (hnew vf obj h1).1
        simp only [if_pos, if_neg hnk]; omega
    · rcases hset k hlk with rfl | ⟨hnk, hlk'⟩
      · have := (M.blocks i vf obj hi hli' h1).2.1
        have := (hnew vf' obj' h2).1
        simp only [if_pos, if_neg hni]; omega
      · simp only [if_neg hni, if_neg hnk]
        exact M.apart i k vf vf' obj obj' hi hk' hne hli' hlk' h1 h2
  · rcases hset i hl with rfl | ⟨hne, hl'⟩
    · obtain ⟨h1, h2⟩ := hdep i0 vf hkd
      exact ⟨h1, hget i0 h2⟩
    · obtain ⟨h1, h2⟩ := M.deps i i0 vf hi hl' hkd
      exact ⟨h1, hget i0 h2⟩
  · obtain ⟨h1, h2, h3⟩ := M.own_ b hb
    have hbw : b < w.heap.size := Nat.lt_of_lt_of_le h1 M.below.size
    have away : ∀ i0 o', kd j = .put i0 o' → b ≠ gs i0 := fun i0 o' hk0 => by
      obtain ⟨vf0, obj0, hn0⟩ := hN j i0 o' hjn hk0
      obtain ⟨q1, q2, _⟩ := hput i0 o' hk0
      have := (M.blocks i0 vf0 obj0 q1 q2 hn0).1
      omega
    have hself : (listed.setIfInBounds j true).getD j true = true := by
      have hlt : j < listed.size := by rw [M.inv.size]; exact (Array.getElem?_eq_some_iff.1 hoj).1
      simp [hlt]
    refine ⟨h1, fun hno => ?_, fun j' o' hj' hlj hkj => ?_⟩
    · rw [hkeep b hbw away fun o' hk0 => absurd hk0 (hno j o' hjn hself)]
      exact h2 fun j' o' hj' hlj => hno j' o' hj' (hget j' hlj)
    · rcases hset j' hlj with rfl | ⟨hnj, hl2⟩
      · exact hown b o' hkj hb
      · rw [hkeep b hbw away fun o'' hk0 => absurd (hO j' j o' o'' hj' hjn hkj hk0) hnj]
        exact h3 j' o' hj' hl2 hkj
  · rcases hset i hl with rfl | ⟨hne, hl'⟩
    · obtain ⟨h1, h2, _⟩ := hput i0 obj hkd
      exact ⟨h1, hget i0 h2⟩
    · obtain ⟨h1, h2⟩ := M.puts i i0 obj hi hl' hkd
      exact ⟨h1, hget i0 h2⟩
end

theorem wpAny_of_mix {n : Nat} {kd : Nat → Kx} {pre : (Nat → Nat) → Nat → Act} {accs : Nat → List (Nat × Obj)} {pss dss : Nat → List Nat} {uss : Nat → Option Obj} {row : Option Nat} {oo : Obj} {a0 : Act} {l : List Oper} {Q : Exit → Act → World → Prop} (hl : l.toArray = ops) (hB : regX md ops n = true)
    (hD : ∀ i o d, i < n → ops[i]? = some o → o.dst = some d → d < a0.tmps.size)
    (h0 : ∀ γ, pre γ 0 = a0) (hk : ∀ γ i o, i < n → ops[i]? = some o → HeadX P md ops n W0 row oo (accs i) (pss i) (dss i) (uss i) o (pre γ i) γ i (kd i) ∧ pre γ (i + 1) = (pre γ i).put o.dst ((kd i).rv γ i))
    (hacc : ∀ j, j ≤ n → ∀ i obj, (i, obj) ∈ accs j → i ∉ pss j → i < j ∧ ∃ vf, kd i = .new vf obj)
    (hU : ∀ j j' i obj obj', j < n → j' < n → kd j = .put i obj → kd j' = .put i obj' → j = j') (hN : ∀ j i obj, j < n → kd j = .put i obj → ∃ vf obj, kd i = .new vf obj) (hX : ∀ j j' i vf obj, j < n → j' < n → kd j = .dep i vf → kd j' ≠ .put i obj)
    (hO : ∀ j j' obj obj', j < n → j' < n → kd j = .own obj → kd j' = .own obj' → j = j')
    (hT : ∀ gs a w, Mix md ops n W0 row oo kd a0 (fullB n ops.size) gs a w → wpList P ops Q (l.drop n) a w) :
    ∀ (f : Nat) (listed : Array Bool) (gs : Nat → Nat) (a : Act) (w : World), unl listed n = f → Mix md ops n W0 row oo kd a0 listed gs a w → wpAny P md ops Q (f + (ops.size - n)) listed a w := by
  simp only [regX, Bool.and_eq_true, decide_eq_true_eq] at hB
  obtain ⟨⟨⟨⟨⟨⟨hsel, hn⟩, hs⟩, hc⟩, hseq⟩, hind⟩, hord⟩ := hB
  have hdl : (l.drop n).length = ops.size - n := by subst hl; simp
  intro f
  induction f with
  | zero =>
    intro listed gs a w hu M
    have hL : listed = fullB n ops.size := by
      refine Array.ext (by rw [M.inv.size]; simp [fullB]; omega) fun i h1 h2 => ?_
      have hd : listed.getD i true = listed[i] := by simp [h1]
      have he : (fullB n ops.size)[i] = decide (i < n) := by
        simp only [fullB]
        rw [Array.getElem_append]
        split <;> rename_i hh <;> simp at hh <;> simp <;> omega
      rw [he, ← hd]
      by_cases hin : i < n
      · rw [unl_zero n hu i hin]; simp [hin]
      · rw [M.inv.tail i (by omega) (by rw [← M.inv.size]; exact h1)]; simp [hin]
    subst hL
    rw [Nat.zero_add, ← hdl]
    exact wpAny_of_seq (l.drop n) n _ a w (fun j => by subst hl; simp [List.getElem?_drop]) (by rw [hdl]; exact hseq) (hT gs a w M)
  | succ f ih =>
    intro listed gs a w hu M
    rw [show f + 1 + (ops.size - n) = (f + (ops.size - n)) + 1 by omega]
    obtain ⟨j0, hj0, hun0, hmin⟩ := unl_pos n (by rw [hu]; omega)
    refine ⟨fun hr => ?_, fun i hi => ?_⟩
    · have : j0 ∈ Region.ready md ops listed := by
        refine mem_ready.2 ⟨hun0, _, Array.getElem?_eq_getElem (by omega), fun e he hb => ?_⟩
        have := List.all_eq_true.1 hord j0 (List.mem_range.2 hj0)
        rw [Array.getElem?_eq_getElem (by omega)] at this
        have h1 := Array.all_eq_true_iff_forall_mem.1 this e he
        simp only [hb, Bool.not_true, Bool.false_or, decide_eq_true_eq] at h1
        exact getD_ft (by rw [M.inv.size]; omega) (hmin _ h1)
      rw [hr] at this; cases this
    · have hin : i < n := by
        rcases Nat.lt_or_ge i n with h | h
        · exact h
        · exact absurd hi (tail_waits hs hc hn M.inv _ j0 rfl hj0 hun0 i h)
      have hun := (mem_ready.1 hi).1
      obtain ⟨_, o, ho, _⟩ := mem_ready.1 hi
      have hu' : unl (listed.setIfInBounds i true) n = f := by have := unl_set hun n hin; omega
      have hkp : ∀ i o, i < n → ops[i]? = some o → pre gs (i + 1) = (pre gs i).put o.dst ((kd i).rv gs i) := fun i o h1 h2 => (hk gs i o h1 h2).2
      have hag := M.agree hind hn hD (h0 gs) hkp hi hin ho
      have hsz : a.tmps.size = (pre gs i).tmps.size := by rw [M.size, (preX_slots hind hn hD gs (h0 gs) hkp i (by omega)).1]
      have he := exec_agree (ops := ops) o (fun cs b => Region.noSelect_spec hsel i o cs b ho) hag
      have hw := wanted_agree o hsz hag
      have hh := (hk gs i o hin ho).1
      unfold wpOp
      simp only [ho, hw]
      cases hkd : kd i with
      | val v =>
        rw [hkd] at hh
        have next : ∀ w', Below w.heap.size w w' → wpAny P md ops Q (f + (ops.size - n)) (listed.setIfInBounds i true) (a.put o.dst v) w' := fun w' hb => by
          have := ih _ _ _ w' hu' (M.step hind hD hU hN hi hin ho hO (grown_step M.below hb) hb.size (fun k hk _ _ => hb.block k hk) (fun b o' h _ => by rw [hkd] at h; cases h) 0 (fun vf obj h => by rw [hkd] at h; cases h) (fun i0 vf h => by rw [hkd] at h; cases h) (fun i0 o' h => by rw [hkd] at h; cases h))
          rw [hkd] at this; exact this
        rcases hh with ⟨hw1, hq⟩ | ⟨hw1, rfl⟩
        · rw [if_pos hw1]
          refine .inl ?_
          have h3 := hq w M.below
          unfold Oper.wp
          rw [he]
          generalize (execOp (pre gs i).eval o).run P w = r at *
          cases r with
          | ok nx w' =>
            cases nx <;> simp only [bqUpon] at h3 <;> simp only [Oper.upon]
            case value u =>
              obtain ⟨e1, e2⟩ := h3
              rw [e1, e2]; exact next _ (Below.refl _ _)
            case skip =>
              obtain ⟨e1, e2⟩ := h3
              rw [e1, ← e2]; exact next _ (Below.refl _ _)
            case enter g args =>
              obtain ⟨e1, hc⟩ := h3
              rw [e1]
              exact hc.mono fun e w'' ⟨h4, h5⟩ => by subst h4; exact next _ h5
          | halt x w' => simp only [bqUpon] at h3
        · rw [hw1]
          exact next _ (Below.refl _ _)
      | new vf obj =>
        rw [hkd] at hh
        obtain ⟨hw1, hq⟩ := hh
        have next : ∀ w' g, Below w.heap.size w w' → w.heap.size ≤ g → w'.heap[g]? = some obj → wpAny P md ops Q (f + (ops.size - n)) (listed.setIfInBounds i true) (a.put o.dst (vf g)) w' := fun w' g hb hg hx => by
          have := ih _ _ _ w' hu' (M.step hind hD hU hN hi hin ho hO (grown_step M.below hb) hb.size (fun k hk _ _ => hb.block k hk) (fun b o' h _ => by rw [hkd] at h; cases h) g (fun vf' obj' h => by
            rw [hkd] at h
            injection h with h1 h2
            subst h2
            exact ⟨hg, hx⟩) (fun i0 vf h => by rw [hkd] at h; cases h) (fun i0 o' h => by rw [hkd] at h; cases h))
          rw [hkd] at this
          simpa only [Kx.rv, if_pos] using this
        rw [if_pos hw1]
        refine .inl ?_
        have h3 := hq w M.below
        unfold Oper.wp
        rw [he]
        generalize (execOp (pre gs i).eval o).run P w = r at *
        cases r with
        | ok nx w' =>
          cases nx <;> simp only [newUpon] at h3 <;> simp only [Oper.upon]
          case value u =>
            obtain ⟨e1, e2⟩ := h3
            rw [e1, e2]; exact next _ _ ((Below.refl _ _).alloc (Nat.le_refl _) _) (Nat.le_refl _) (heap_alloc_new w _)
          case enter g args =>
            obtain ⟨e1, hc⟩ := h3
            rw [e1]
            exact hc.mono fun e w'' ⟨g, h4, h5, h6, h7⟩ => by subst h4; exact next _ g h7 h5 h6
        | halt x w' => simp only [newUpon] at h3
      | dep i0 vf =>
        rw [hkd] at hh
        obtain ⟨hw1, hdp, hps, obj, hmem, hq⟩ := hh
        obtain ⟨hi0, hl0⟩ := M.dep_listed hn hi hdp
        obtain ⟨_, vf0, hk0⟩ := hacc i (by omega) i0 obj hmem hps
        have hne : i0 ≠ i := fun e => by subst e; rw [hun] at hl0; cases hl0
        rw [if_pos hw1]
        refine .inl ?_
        have h3 := hq w M.below ((M.blocks i0 vf0 obj hi0 hl0 hk0).2.2.1 fun j' o' hj' _ => hX i j' i0 vf o' hin hj' hkd)
        unfold Oper.wp
        rw [he]
        have next : wpAny P md ops Q (f + (ops.size - n)) (listed.setIfInBounds i true) (a.put o.dst (vf (gs i0))) w := by
          have := ih _ _ _ w hu' (M.step hind hD hU hN hi hin ho hO M.below (Nat.le_refl _) (fun k _ _ _ => rfl) (fun b o' h _ => by rw [hkd] at h; cases h) 0 (fun vf obj h => by rw [hkd] at h; cases h) (fun i1 vf1 h => by
            rw [hkd] at h
            injection h with h1 h2
            subst h1
            exact ⟨hi0, hl0⟩) (fun i0 o' h => by rw [hkd] at h; cases h))
          rw [hkd] at this
          simpa only [Kx.rv, if_neg hne] using this
        generalize (execOp (pre gs i).eval o).run P w = r at *
        cases r with
        | ok nx w' =>
          cases nx <;> simp only [depUpon] at h3 <;> simp only [Oper.upon]
          case value u =>
            obtain ⟨e1, e2⟩ := h3
            rw [e1, e2]; exact next
        | halt x w' => simp only [depUpon] at h3
      | put i0 obj' =>
        rw [hkd] at hh
        obtain ⟨hw1, hdp, hps, hds, obj, hmem, hq⟩ := hh
        obtain ⟨hi0, hl0⟩ := M.dep_listed hn hi hdp
        obtain ⟨_, vf0, hk0⟩ := hacc i (by omega) i0 obj hmem hps
        have hne : i0 ≠ i := fun e => by subst e; rw [hun] at hl0; cases hl0
        rw [if_pos hw1]
        refine .inl ?_
        obtain ⟨b1, b2, b3, b4⟩ := M.blocks i0 vf0 obj hi0 hl0 hk0
        have h3 := hq w M.below (b3 fun j' o' hj' hlj hkj => by
          have := hU j' i i0 o' obj' hj' hin hkj hkd
          subst this
          rw [hun] at hlj; cases hlj)
        unfold Oper.wp
        rw [he]
        have next : ∀ w', PutW w (gs i0) obj' w' → wpAny P md ops Q (f + (ops.size - n)) (listed.setIfInBounds i true) (a.put o.dst undef) w' := fun w' hp => by
          have hB0 : W0.grownBy w' row := ⟨hp.os.trans M.below.os, hp.tape.trans M.below.tape, hp.output.trans M.below.output, by rw [hp.size]; exact M.below.size, fun k hk hr => (hp.other k (by omega)).trans (M.below.block k hk hr)⟩
          have := ih _ _ _ w' hu' (M.step hind hD hU hN hi hin ho hO hB0 (by rw [hp.size]; exact Nat.le_refl _) (fun k _ hk _ => hp.other k (hk i0 obj' hkd)) (fun b o' h _ => by rw [hkd] at h; cases h) 0 (fun vf obj h => by rw [hkd] at h; cases h) (fun i1 vf1 h => by rw [hkd] at h; cases h) (fun i1 o' h => by
            rw [hkd] at h
            injection h with h1 h2
            subst h1 h2
            exact ⟨hi0, hl0, hp.at_⟩))
          rw [hkd] at this
          exact this
        generalize (execOp (pre gs i).eval o).run P w = r at *
        cases r with
        | ok nx w' =>
          cases nx <;> simp only [putUpon] at h3 <;> simp only [Oper.upon]
          case value u =>
            obtain ⟨e1, e2⟩ := h3
            rw [e2]; exact next _ e1
          case skip => exact next _ h3
        | halt x w' => simp only [putUpon] at h3
      | own obj' =>
        rw [hkd] at hh
        obtain ⟨hw1, hus, b, hrow, hq⟩ := hh
        rw [if_pos hw1]
        refine .inl ?_
        obtain ⟨b1, b2, b3⟩ := M.own_ b hrow
        have h3 := hq w M.below (b2 fun j' o' hj' hlj hkj => by
          have := hO j' i o' obj' hj' hin hkj hkd
          subst this
          rw [hun] at hlj; cases hlj)
        unfold Oper.wp
        rw [he]
        have next : ∀ w', PutW w b obj' w' → wpAny P md ops Q (f + (ops.size - n)) (listed.setIfInBounds i true) (a.put o.dst undef) w' := fun w' hp => by
          have hB0 : W0.grownBy w' row := ⟨hp.os.trans M.below.os, hp.tape.trans M.below.tape, hp.output.trans M.below.output, by rw [hp.size]; exact M.below.size, fun k hk hr => (hp.other k (fun e => hr (by rw [e]; exact hrow.symm))).trans (M.below.block k hk hr)⟩
          have := ih _ _ _ w' hu' (M.step hind hD hU hN hi hin ho hO hB0 (by rw [hp.size]; exact Nat.le_refl _) (fun k _ _ hk => hp.other k (fun e => hk obj' hkd (by rw [e]; exact hrow.symm))) (fun b' o' h hb' => by
            rw [hkd] at h
            injection h with h1
            subst h1
            rw [hrow] at hb'
            injection hb' with h2
            subst h2
            exact hp.at_) 0 (fun vf obj h => by rw [hkd] at h; cases h) (fun i1 vf1 h => by rw [hkd] at h; cases h) (fun i1 o' h => by rw [hkd] at h; cases h))
          rw [hkd] at this
          exact this
        generalize (execOp (pre gs i).eval o).run P w = r at *
        cases r with
        | ok nx w' =>
          cases nx <;> simp only [putUpon] at h3 <;> simp only [Oper.upon]
          case value u =>
            obtain ⟨e1, e2⟩ := h3
            rw [e2]; exact next _ e1
          case skip => exact next _ h3
        | halt x w' => simp only [putUpon] at h3

/-- The tail: each new block has got its number. -/
def TailX (W0 : World) (T : Act → World → Prop) (γ : Nat → Nat) : List (Nat × Obj) → List Nat → Act → World → Prop
  | [], _, a, w => T a w
  | (i, o) :: r, gs, a, w => ∀ g, γ i = g → W0.heap.size ≤ g → w.heap[g]? = some o → (∀ x ∈ gs, x ≠ g) → TailX W0 T γ r (gs ++ [g]) a w
theorem TailX_of {T : Act → World → Prop} {γ : Nat → Nat} {a : Act} {w : World} : ∀ (l : List (Nat × Obj)) (gs : List Nat), TailX W0 T γ l gs a w → (∀ p ∈ l, W0.heap.size ≤ γ p.1 ∧ w.heap[γ p.1]? = some p.2) →
    (∀ p ∈ l, ∀ x ∈ gs, x ≠ γ p.1) → (l.map Prod.fst).Nodup → (∀ p ∈ l, ∀ q ∈ l, p.1 ≠ q.1 → γ p.1 ≠ γ q.1) → T a w
  | [], _, h, _, _, _, _ => h
  | (i, o) :: r, gs, h, h1, h2, h3, h4 => by
    have := h _ rfl (h1 (i, o) (by simp)).1 (h1 (i, o) (by simp)).2 (h2 (i, o) (by simp))
    have hnd := List.nodup_cons.1 h3
    refine TailX_of r _ this (fun p hp => h1 p (by simp [hp])) (fun p hp x hx => ?_) hnd.2 (fun p hp q hq => h4 p (by simp [hp]) q (by simp [hq]))
    rcases List.mem_append.1 hx with hx | hx
    · exact h2 p (by simp [hp]) x hx
    · obtain rfl : x = γ i := by simpa using hx
      exact h4 (i, o) (by simp) p (by simp [hp]) (fun e => hnd.1 (List.mem_map.2 ⟨p, hp, e.symm⟩))

/-- THE REGION. -/
theorem wp_region_bx {id : Nat} {Q : Exit → Act → World → Prop} {a : Act} {w : World} {l : List Oper} (n : Nat) (row : Option Nat) (oo : Obj) (hm : P.follows .mixedOrders = true) (hB : regX .any l.toArray n = true)
    (hD : ((l.take n).all fun o => match o.dst with | some d => decide (d < a.tmps.size) | none => true) = true) (hrow : ∀ b, row = some b → w.heap[b]? = some oo)
    (h : wpBx P .any l.toArray n w.drew row oo (fun acc us a => ∀ γ w', w.drew.grownBy w' row → (∀ b, row = some b → w'.heap[b]? = some (us.getD oo)) → TailX w.drew (wpList P l.toArray Q (l.drop n)) γ acc [] (a γ) w') (l.take n) 0 [] [] [] none (fun _ => a)) : (Code.region id l.toArray true).wp P Q a w := by
  obtain ⟨kd, pre, accs, pss, dss, uss, h0, ⟨ha0, hp0, hd0, hu0⟩, hk, hT⟩ := wpBx_kinds _ _ _ _ _ _ _ h
  have hB' := hB
  simp only [regX, Bool.and_eq_true, decide_eq_true_eq] at hB'
  obtain ⟨⟨⟨⟨⟨⟨hsel, hn⟩, hs⟩, hc⟩, hseq⟩, hind⟩, hord⟩ := hB'
  have hn' : n < l.length := by simpa using hn
  have htl : (l.take n).length = n := by simp; omega
  have htk : ∀ i o, i < n → l.toArray[i]? = some o → (l.take n)[i]? = some o := fun i o hi ho => by
    rw [List.getElem?_take, if_pos hi]; simpa using ho
  have hk' : ∀ γ i o, i < n → l.toArray[i]? = some o → HeadX P .any l.toArray n w.drew row oo (accs i) (pss i) (dss i) (uss i) o (pre γ i) γ i (kd i) ∧ pre γ (i + 1) = (pre γ i).put o.dst ((kd i).rv γ i) := fun γ i o hi ho => by
    have := (hk i o (htk i o hi ho)).1 γ
    rwa [Nat.zero_add] at this
  have hD' : ∀ i o d, i < n → l.toArray[i]? = some o → o.dst = some d → d < a.tmps.size := fun i o d hi ho hd => by
    have hmem : o ∈ l.take n := List.mem_of_getElem? (htk i o hi ho)
    have := List.all_eq_true.1 hD o hmem
    rw [hd] at this
    simpa using this
  have hop : ∀ i, i < n → ∃ o, l.toArray[i]? = some o := fun i hi => ⟨l[i]'(by omega), by simp⟩
  have hpd : ∀ j, j ≤ n → (∀ i, i ∈ pss j ↔ ∃ j' obj, j' < j ∧ kd j' = .put i obj) ∧ (∀ i, i ∈ dss j ↔ ∃ j' vf, j' < j ∧ kd j' = .dep i vf) := by
    intro j
    induction j with
    | zero => intro _; rw [hp0, hd0]; exact ⟨fun i => by simp, fun i => by simp⟩
    | succ j ih =>
      intro hj
      obtain ⟨i1, i2⟩ := ih (by omega)
      obtain ⟨o, ho⟩ := hop j (by omega)
      obtain ⟨_, _, e1, e2, _⟩ := hk j o (htk j o (by omega) ho)
      rw [e1, e2]
      constructor
      · intro i
        constructor
        · intro hi
          have : i ∈ pss j ∨ ∃ obj, kd j = .put i obj := by
            cases hkd : kd j with
            | put i0 obj =>
              rw [hkd] at hi
              rcases List.mem_cons.1 hi with rfl | hi
              · exact .inr ⟨obj, rfl⟩
              · exact .inl hi
            | val v => rw [hkd] at hi; exact .inl hi
            | new vf obj => rw [hkd] at hi; exact .inl hi
            | dep i0 vf => rw [hkd] at hi; exact .inl hi
            | own obj => rw [hkd] at hi; exact .inl hi
          rcases this with h | ⟨obj, h⟩
          · obtain ⟨j', obj, h1, h2⟩ := (i1 i).1 h
            exact ⟨j', obj, by omega, h2⟩
          · exact ⟨j, obj, by omega, h⟩
        · rintro ⟨j', obj, h1, h2⟩
          by_cases hjj : j' = j
          · subst hjj; rw [h2]; simp [psX]
          · have := (i1 i).2 ⟨j', obj, by omega, h2⟩
            cases hkd : kd j <;> simp [psX, this]
      · intro i
        constructor
        · intro hi
          have : i ∈ dss j ∨ ∃ vf, kd j = .dep i vf := by
            cases hkd : kd j with
            | dep i0 vf =>
              rw [hkd] at hi
              rcases List.mem_cons.1 hi with rfl | hi
              · exact .inr ⟨vf, rfl⟩
              · exact .inl hi
            | val v => rw [hkd] at hi; exact .inl hi
            | new vf obj => rw [hkd] at hi; exact .inl hi
            | put i0 obj => rw [hkd] at hi; exact .inl hi
            | own obj => rw [hkd] at hi; exact .inl hi
          rcases this with h | ⟨vf, h⟩
          · obtain ⟨j', vf, h1, h2⟩ := (i2 i).1 h
            exact ⟨j', vf, by omega, h2⟩
          · exact ⟨j, vf, by omega, h⟩
        · rintro ⟨j', vf, h1, h2⟩
          by_cases hjj : j' = j
          · subst hjj; rw [h2]; simp [dsX]
          · have := (i2 i).2 ⟨j', vf, by omega, h2⟩
            cases hkd : kd j <;> simp [dsX, this]
  have hhd : ∀ j, j < n → ∃ o, HeadX P .any l.toArray n w.drew row oo (accs j) (pss j) (dss j) (uss j) o (pre (fun _ => 0) j) (fun _ => 0) j (kd j) := fun j hj => by
    obtain ⟨o, ho⟩ := hop j hj
    exact ⟨o, (hk' (fun _ => 0) j o hj ho).1⟩
  have hU : ∀ j j' i obj obj', j < n → j' < n → kd j = .put i obj → kd j' = .put i obj' → j = j' := by
    have key : ∀ j j' i obj obj', j < n → j' < n → kd j = .put i obj → kd j' = .put i obj' → ¬ j < j' := fun j j' i obj obj' hj hj' h1 h2 hlt => by
      obtain ⟨o, hh⟩ := hhd j' hj'
      rw [h2] at hh
      exact hh.2.2.1 (((hpd j' (by omega)).1 i).2 ⟨j, obj, hlt, h1⟩)
    intro j j' i obj obj' hj hj' h1 h2
    have := key j j' i obj obj' hj hj' h1 h2
    have := key j' j i obj' obj hj' hj h2 h1
    omega
  have hX : ∀ j j' i vf obj, j < n → j' < n → kd j = .dep i vf → kd j' ≠ .put i obj := fun j j' i vf obj hj hj' h1 h2 => by
    rcases Nat.lt_trichotomy j j' with hlt | rfl | hlt
    · obtain ⟨o, hh⟩ := hhd j' hj'
      rw [h2] at hh
      exact hh.2.2.2.1 (((hpd j' (by omega)).2 i).2 ⟨j, vf, hlt, h1⟩)
    · rw [h1] at h2; cases h2
    · obtain ⟨o, hh⟩ := hhd j hj
      rw [h1] at hh
      exact hh.2.2.1 (((hpd j (by omega)).1 i).2 ⟨j', obj, hlt, h2⟩)
  have hus : ∀ j, j ≤ n → (uss j = none ∧ ∀ j' o', j' < j → kd j' ≠ .own o') ∨ (∃ j' o', j' < j ∧ kd j' = .own o' ∧ uss j = some o') := by
    intro j
    induction j with
    | zero => intro _; exact .inl ⟨hu0, fun j' o' h => absurd h (Nat.not_lt_zero _)⟩
    | succ j ih =>
      intro hj
      obtain ⟨o, ho⟩ := hop j (by omega)
      obtain ⟨_, _, _, _, e3⟩ := hk j o (htk j o (by omega) ho)
      have other : (∀ o', kd j ≠ .own o') → uss (j + 1) = uss j → (uss (j + 1) = none ∧ ∀ j' o', j' < j + 1 → kd j' ≠ .own o') ∨ (∃ j' o', j' < j + 1 ∧ kd j' = .own o' ∧ uss (j + 1) = some o') := fun hno he => by
        rw [he]
        rcases ih (by omega) with ⟨h1, h2⟩ | ⟨j', o', h1, h2, h3⟩
        · refine .inl ⟨h1, fun j' o' hj' => ?_⟩
          by_cases e : j' = j
          · subst e; exact hno o'
          · exact h2 j' o' (by omega)
        · exact .inr ⟨j', o', by omega, h2, h3⟩
      cases hkd : kd j with
      | own obj => exact .inr ⟨j, obj, by omega, hkd, by rw [e3, hkd]; rfl⟩
      | val v => exact other (fun o' h => by rw [hkd] at h; cases h) (by rw [e3, hkd]; rfl)
      | new vf obj => exact other (fun o' h => by rw [hkd] at h; cases h) (by rw [e3, hkd]; rfl)
      | dep i0 vf => exact other (fun o' h => by rw [hkd] at h; cases h) (by rw [e3, hkd]; rfl)
      | put i0 obj => exact other (fun o' h => by rw [hkd] at h; cases h) (by rw [e3, hkd]; rfl)
  have hO : ∀ j j' obj obj', j < n → j' < n → kd j = .own obj → kd j' = .own obj' → j = j' := by
    have key : ∀ j j' obj obj', j < n → j' < n → kd j = .own obj → kd j' = .own obj' → ¬ j < j' := fun j j' obj obj' hj hj' h1 h2 hlt => by
      obtain ⟨o, hh⟩ := hhd j' hj'
      rw [h2] at hh
      rcases hus j' (by omega) with ⟨_, h4⟩ | ⟨_, _, _, _, h5⟩
      · exact h4 j obj hlt h1
      · rw [hh.2.1] at h5; cases h5
    intro j j' obj obj' hj hj' h1 h2
    have := key j j' obj obj' hj hj' h1 h2
    have := key j' j obj' obj hj' hj h2 h1
    omega
  have hsub : ∀ j i, j ≤ n → i ∈ (accs j).map Prod.fst → i < j := by
    intro j
    induction j with
    | zero => intro i _ h; rw [ha0] at h; simp at h
    | succ j ih =>
      intro i hj h
      obtain ⟨o, ho⟩ := hop j (by omega)
      rw [(hk j o (htk j o (by omega) ho)).2.1, Nat.zero_add] at h
      have h' : i ∈ (accs j).map Prod.fst ∨ i = j := by
        cases hkd : kd j with
        | val v => rw [hkd] at h; exact .inl h
        | dep i0 vf => rw [hkd] at h; exact .inl h
        | own obj => rw [hkd] at h; exact .inl h
        | new vf obj =>
          rw [hkd] at h
          simp only [accX, List.map_append, List.map_cons, List.map_nil, List.mem_append, List.mem_singleton] at h
          exact h
        | put i0 obj =>
          rw [hkd] at h
          refine .inl ?_
          simp only [accX] at h
          obtain ⟨p, hp, rfl⟩ := List.mem_map.1 h
          obtain ⟨q, hq, rfl⟩ := List.mem_map.1 hp
          by_cases e : q.1 = i0
          · rw [if_pos e]; exact List.mem_map.2 ⟨q, hq, e⟩
          · rw [if_neg e]; exact List.mem_map.2 ⟨q, hq, rfl⟩
      rcases h' with h' | h'
      · have := ih i (by omega) h'; omega
      · omega
  have hacc : ∀ j, j ≤ n → (∀ i obj, (i, obj) ∈ accs j → i < j ∧ ∃ vf obj0, kd i = .new vf obj0 ∧ ((∃ j', j' < j ∧ kd j' = .put i obj) ∨ (obj = obj0 ∧ ∀ j' o', j' < j → kd j' ≠ .put i o'))) ∧ ((accs j).map Prod.fst).Nodup := by
    intro j
    induction j with
    | zero => intro _; rw [ha0]; exact ⟨fun i obj h => by simp at h, by simp⟩
    | succ j ih =>
      intro hj
      obtain ⟨i1, i2⟩ := ih (by omega)
      obtain ⟨o, ho⟩ := hop j (by omega)
      rw [(hk j o (htk j o (by omega) ho)).2.1, Nat.zero_add]
      have plain : (∀ i o', kd j ≠ .put i o') → ∀ i obj, (i, obj) ∈ accs j → i < j + 1 ∧ ∃ vf obj0, kd i = .new vf obj0 ∧ ((∃ j', j' < j + 1 ∧ kd j' = .put i obj) ∨ (obj = obj0 ∧ ∀ j' o', j' < j + 1 → kd j' ≠ .put i o')) := fun hno i obj h => by
        obtain ⟨h1, vf, obj0, h2, h3⟩ := i1 i obj h
        refine ⟨by omega, vf, obj0, h2, ?_⟩
        rcases h3 with ⟨j', h4, h5⟩ | ⟨h4, h5⟩
        · exact .inl ⟨j', by omega, h5⟩
        · refine .inr ⟨h4, fun j' o' hj' => ?_⟩
          by_cases e : j' = j
          · subst e; exact hno i o'
          · exact h5 j' o' (by omega)
      cases hkd : kd j with
      | val v => exact ⟨plain (fun i o' h => by rw [hkd] at h; cases h), i2⟩
      | dep i0 vf => exact ⟨plain (fun i o' h => by rw [hkd] at h; cases h), i2⟩
      | own obj => exact ⟨plain (fun i o' h => by rw [hkd] at h; cases h), i2⟩
      | new vf obj =>
        refine ⟨fun i obj' h => ?_, ?_⟩
        · rcases List.mem_append.1 h with h | h
          · exact plain (fun i o' h => by rw [hkd] at h; cases h) i obj' h
          · simp at h
            obtain ⟨rfl, rfl⟩ := h
            refine ⟨by omega, vf, obj', hkd, .inr ⟨rfl, fun j' o' hj' hk0 => ?_⟩⟩
            have hj2 : j' ≠ i := fun e => by subst e; rw [hkd] at hk0; cases hk0
            obtain ⟨o2, hh⟩ := hhd j' (by omega)
            rw [hk0] at hh
            obtain ⟨_, _, _, _, ob, hm, _⟩ := hh
            have hx : i ∈ (accs j').map Prod.fst := List.mem_map.2 ⟨(i, ob), hm, rfl⟩
            have := hsub j' i (by omega) hx
            omega
        · simp only [accX, List.map_append, List.map_cons, List.map_nil]
          refine List.nodup_append.2 ⟨i2, by simp, fun x hx y hy => ?_⟩
          obtain rfl : y = j := by simpa using hy
          obtain ⟨p, hp, rfl⟩ := List.mem_map.1 hx
          have := (i1 p.1 p.2 hp).1
          omega
      | put i0 obj' =>
        have hfst : ((accs j).map fun p => if p.1 = i0 then (i0, obj') else p).map Prod.fst = (accs j).map Prod.fst := by
          rw [List.map_map]
          refine List.map_congr_left fun p _ => ?_
          simp only [Function.comp]
          split
          · rename_i e; exact e.symm
          · rfl
        refine ⟨fun i obj h => ?_, by simp only [accX]; rw [hfst]; exact i2⟩
        simp only [accX] at h
        obtain ⟨q, hq, hqe⟩ := List.mem_map.1 h
        by_cases e : q.1 = i0
        · rw [if_pos e] at hqe
          injection hqe with e1 e2
          subst e1 e2
          obtain ⟨h1, vf, obj0, h2, h3⟩ := i1 q.1 q.2 hq
          rw [e] at h1 h2
          exact ⟨by omega, vf, obj0, h2, .inl ⟨j, by omega, hkd⟩⟩
        · rw [if_neg e] at hqe
          subst hqe
          obtain ⟨h1, vf, obj0, h2, h3⟩ := i1 i obj hq
          refine ⟨by omega, vf, obj0, h2, ?_⟩
          rcases h3 with ⟨j', h4, h5⟩ | ⟨h4, h5⟩
          · exact .inl ⟨j', by omega, h5⟩
          · refine .inr ⟨h4, fun j' o' hj' => ?_⟩
            by_cases e' : j' = j
            · subst e'; rw [hkd]; intro h; injection h with h6 h7; exact e h6.symm
            · exact h5 j' o' (by omega)
  have hN : ∀ j i obj, j < n → kd j = .put i obj → ∃ vf obj, kd i = .new vf obj := fun j i obj hj hkd => by
    obtain ⟨o, hh⟩ := hhd j hj
    rw [hkd] at hh
    obtain ⟨_, _, _, _, ob, hm, _⟩ := hh
    obtain ⟨_, vf, obj0, h2, _⟩ := (hacc j (by omega)).1 i ob hm
    exact ⟨vf, obj0, h2⟩
  have hfull : ∀ i, i < n → (fullB n l.toArray.size).getD i true = true := fun i hi => by
    simp [fullB, Array.getElem?_append, hi]
  refine wp_region_any hm ?_
  have M0 : Mix .any l.toArray n w.drew row oo kd a (Array.replicate l.toArray.size false) (fun _ => 0) a w.drew := by
    have hf : ∀ i, i < n → (Array.replicate l.toArray.size false).getD i true = false := fun i hi => getD_in (by simp; omega) (getD_replicate_false _ _)
    exact ⟨⟨by simp, fun j oj _ hl => (by rw [getD_replicate_false] at hl; cases hl), fun t _ ht => getD_in (by simpa using ht) (getD_replicate_false _ _)⟩, rfl, rfl,
      fun i o d hi _ hl => (by rw [hf i hi] at hl; cases hl), fun d _ => rfl, ⟨rfl, rfl, rfl, Nat.le_refl _, fun _ _ _ => rfl⟩, fun i _ _ hi hl => (by rw [hf i hi] at hl; cases hl), fun i _ _ _ _ _ hi _ _ hl => (by rw [hf i hi] at hl; cases hl),
      fun i _ _ hi hl => (by rw [hf i hi] at hl; cases hl), fun b hb => ⟨heap_lt (hrow b hb), fun _ => hrow b hb, fun i _ hi hl => (by rw [hf i hi] at hl; cases hl)⟩, fun i _ _ hi hl => (by rw [hf i hi] at hl; cases hl)⟩
  have hu : unl (Array.replicate l.toArray.size false) n = n := by
    have : ∀ k, k ≤ l.toArray.size → unl (Array.replicate l.toArray.size false) k = k := by
      intro k
      induction k with
      | zero => intro _; rfl
      | succ k ih =>
        intro hk
        rw [unl, ih (by omega), getD_in (by simp at hk ⊢; omega) (getD_replicate_false _ _)]
        simp
    exact this n (by omega)
  have := wpAny_of_mix (Q := Q) (l := l) rfl hB hD' h0 hk' (fun j hj i obj hm hps => by
    obtain ⟨h1, vf, obj0, h2, h3⟩ := (hacc j hj).1 i obj hm
    rcases h3 with ⟨j', h4, h5⟩ | ⟨h4, _⟩
    · exact absurd (((hpd j hj).1 i).2 ⟨j', obj, h4, h5⟩) hps
    · subst h4; exact ⟨h1, vf, h2⟩) hU hN hX hO (fun gs a' w' M => ?_) n _ _ a w.drew hu M0
  · rw [show n + (l.toArray.size - n) = l.toArray.size by omega] at this
    exact this
  · obtain ⟨p1, p2, p3, p4⟩ := preX_slots hind hn hD' gs (h0 gs) (fun i o h1 h2 => (hk' gs i o h1 h2).2) n (Nat.le_refl _)
    have ht := hT gs w' M.below (fun b hb => by
      obtain ⟨b1, b2, b3⟩ := M.own_ b hb
      rw [htl]
      rcases hus n (Nat.le_refl _) with ⟨h1, h2⟩ | ⟨j', o', h1, h2, h3⟩
      · rw [h1]; exact b2 fun j' o' hj' _ => h2 j' o' hj'
      · rw [h3]; exact b3 j' o' h1 (hfull j' h1) h2)
    rw [htl] at ht
    have hA := hacc n (Nat.le_refl _)
    have hap : a' = pre gs n := act_ext (by rw [M.size, p1]) (by rw [M.defers, p2]) fun d => by
      by_cases hx : ∃ i o, i < n ∧ l.toArray[i]? = some o ∧ o.dst = some d
      · obtain ⟨i, o, hi, ho, hd⟩ := hx
        rw [M.done i o d hi ho (hfull i hi) hd, p3 i o d hi ho hd]
      · rw [p4 d fun i o hi ho hd => hx ⟨i, o, hi, ho, hd⟩, M.rest d fun i o hi ho _ hd => hx ⟨i, o, hi, ho, hd⟩]
    rw [hap]
    refine TailX_of _ _ ht (fun p hp => ?_) (fun p _ x hx => by cases hx) hA.2 (fun p hp q hq hne => ?_)
    · obtain ⟨hi, vf, obj0, hkd, h3⟩ := hA.1 p.1 p.2 hp
      obtain ⟨b1, b2, b3, b4⟩ := M.blocks p.1 vf obj0 hi (hfull _ hi) hkd
      rcases h3 with ⟨j', h4, h5⟩ | ⟨h4, h5⟩
      · exact ⟨b1, b4 j' p.2 h4 (hfull _ h4) h5⟩
      · rw [h4]; exact ⟨b1, b3 fun j' o' hj' _ => h5 j' o' hj'⟩
    · obtain ⟨hi, vf, obj0, hkd, _⟩ := hA.1 p.1 p.2 hp
      obtain ⟨hi', vf', obj0', hkd', _⟩ := hA.1 q.1 q.2 hq
      exact M.apart p.1 q.1 vf vf' obj0 obj0' hi hi' hne (hfull _ hi) (hfull _ hi') hkd hkd'
end

theorem wp_region_bx2 {P : Program} {id : Nat} {Q : Exit → Act → World → Prop} {a : Act} {w : World} {l : List Oper} (n : Nat) (row : Option Nat) (oo : Obj) (S : World → Prop) (hm : P.follows .mixedOrders = true) (hB : regX .any l.toArray n = true)
    (hD : ((l.take n).all fun o => match o.dst with | some d => decide (d < a.tmps.size) | none => true) = true) (hrow : ∀ b, row = some b → w.heap[b]? = some oo) (hS : ∀ w', w.drew.grownBy w' row → S w')
    (h : (∀ w', w.drew.grownBy w' row → S w') → wpBx P .any l.toArray n w.drew row oo (fun acc us a => ∀ γ w', w.drew.grownBy w' row → (∀ b, row = some b → w'.heap[b]? = some (us.getD oo)) → TailX w.drew (wpList P l.toArray Q (l.drop n)) γ acc [] (a γ) w') (l.take n) 0 [] [] [] none (fun _ => a)) : (Code.region id l.toArray true).wp P Q a w :=
  wp_region_bx n row oo hm hB hD hrow (h hS)
theorem below_of_own {w w' : World} {b B : Nat} (h : w.grownBy w' (some b)) (hB : B ≤ b) (hw : B ≤ w.heap.size) : Below B w w' := ⟨h.os, h.tape, h.output, h.size, fun k hk => h.block k (by omega) (fun e => by injection e with e; omega)⟩
theorem below_of_grown {w w' : World} (h : w.grownBy w' none) : Below w.heap.size w w' := ⟨h.os, h.tape, h.output, h.size, fun k hk => h.block k hk (by simp)⟩

section
variable {P : Program} {md : Region.Mode} {ops : Array Oper} {n : Nat} {W0 : World} {row : Option Nat} {oo : Obj} {T : List (Nat × Obj) → Option Obj → ((Nat → Nat) → Act) → Prop} {o : Oper} {r : List Oper} {j : Nat} {acc : List (Nat × Obj)} {ps ds : List Nat} {us : Option Obj} {a : (Nat → Nat) → Act}
@[go_sem] theorem newUpon_value (w w' : World) (u : Value) (vf : Nat → Value) (obj : Obj) : newUpon P w vf obj (.ok (.value u) w') = (w' = w.alloc obj ∧ u = vf w.heap.size) := rfl
@[go_sem] theorem newUpon_enter (w : World) (vf : Nat → Value) (obj : Obj) (f : FuncId) (args : Array Value) : newUpon P w vf obj (.ok (.enter f args) w) = Calls P f args w (fun e w'' => ∃ g, e = .returned (vf g) ∧ w.heap.size ≤ g ∧ w''.heap[g]? = some obj ∧ Below w.heap.size w w'') := by simp [newUpon]
@[go_sem] theorem depUpon_value (w : World) (u v : Value) : depUpon w v (.ok (.value u) w) = (u = v) := by simp [depUpon]
theorem wpBx_op (hw : ∀ γ, Region.wanted o (yielded ops (a γ).tmps) = true)
    (h : ∀ K : ((Nat → Nat) → Act) → Prop, (∀ a, wpBx P md ops n W0 row oo T r (j + 1) acc ps ds us a → K a) → ∃ v, (∀ γ w, W0.grownBy w row → bqUpon P w v ((execOp (a γ).eval o).run P w)) ∧ K (fun γ => (a γ).put o.dst v)) : wpBx P md ops n W0 row oo T (o :: r) j acc ps ds us a := by
  obtain ⟨v, h1, h2⟩ := h _ fun _ hh => hh
  exact ⟨.val v, fun γ => .inl ⟨hw γ, h1 γ⟩, h2⟩
theorem wpBx_no (hw : ∀ γ, Region.wanted o (yielded ops (a γ).tmps) = false)
    (h : ∀ K : ((Nat → Nat) → Act) → Prop, (∀ a, wpBx P md ops n W0 row oo T r (j + 1) acc ps ds us a → K a) → K (fun γ => (a γ).put o.dst undef)) : wpBx P md ops n W0 row oo T (o :: r) j acc ps ds us a :=
  ⟨.val undef, fun γ => .inr ⟨hw γ, rfl⟩, h _ fun _ hh => hh⟩
theorem wpBx_mk (vf : Nat → Value) (hw : ∀ γ, Region.wanted o (yielded ops (a γ).tmps) = true)
    (h : ∀ K : ((Nat → Nat) → Act) → Obj → Prop, (∀ a obj, wpBx P md ops n W0 row oo T r (j + 1) (acc ++ [(j, obj)]) ps ds us a → K a obj) → ∃ obj, (∀ γ w, W0.grownBy w row → newUpon P w vf obj ((execOp (a γ).eval o).run P w)) ∧ K (fun γ => (a γ).put o.dst (vf (γ j))) obj) : wpBx P md ops n W0 row oo T (o :: r) j acc ps ds us a := by
  obtain ⟨obj, h1, h2⟩ := h _ fun _ _ hh => hh
  exact ⟨.new vf obj, fun γ => ⟨hw γ, h1 γ⟩, h2⟩
@[go_sem] theorem putUpon_skip (w w' : World) (g : Nat) (obj : Obj) : putUpon w g obj (.ok .skip w') = PutW w g obj w' := rfl
theorem wpBx_dep (i : Nat) {obj : Obj} (hm : (i, obj) ∈ acc) (hd : depB md ops n j i = true) (hp : i ∉ ps) (hw : ∀ γ, Region.wanted o (yielded ops (a γ).tmps) = true)
    (h : ∀ K : ((Nat → Nat) → Act) → Prop, (∀ a, wpBx P md ops n W0 row oo T r (j + 1) acc ps (i :: ds) us a → K a) → ∃ vf : Nat → Value, (∀ γ g w, γ i = g → W0.grownBy w row → w.heap[g]? = some obj → depUpon w (vf g) ((execOp (a γ).eval o).run P w)) ∧ K (fun γ => (a γ).put o.dst (vf (γ i)))) : wpBx P md ops n W0 row oo T (o :: r) j acc ps ds us a := by
  obtain ⟨vf, h1, h2⟩ := h _ fun _ hh => hh
  exact ⟨.dep i vf, fun γ => ⟨hw γ, hd, hp, obj, hm, fun w hb hx => h1 γ _ w rfl hb hx⟩, h2⟩
theorem wpBx_put (i : Nat) {obj : Obj} (hm : (i, obj) ∈ acc) (hd : depB md ops n j i = true) (hp : i ∉ ps) (hq : i ∉ ds) (hw : ∀ γ, Region.wanted o (yielded ops (a γ).tmps) = true)
    (h : ∀ K : ((Nat → Nat) → Act) → Obj → Prop, (∀ a obj', wpBx P md ops n W0 row oo T r (j + 1) (acc.map fun p => if p.1 = i then (i, obj') else p) (i :: ps) ds us a → K a obj') → ∃ obj', (∀ γ g w, γ i = g → W0.grownBy w row → w.heap[g]? = some obj → putUpon w g obj' ((execOp (a γ).eval o).run P w)) ∧ K (fun γ => (a γ).put o.dst undef) obj') : wpBx P md ops n W0 row oo T (o :: r) j acc ps ds us a := by
  obtain ⟨obj', h1, h2⟩ := h _ fun _ _ hh => hh
  exact ⟨.put i obj', fun γ => ⟨hw γ, hd, hp, hq, obj, hm, fun w hb hx => h1 γ _ w rfl hb hx⟩, h2⟩
theorem wpBx_own {b : Nat} (hb : row = some b) (hu : us = none) (hw : ∀ γ, Region.wanted o (yielded ops (a γ).tmps) = true)
    (h : ∀ K : ((Nat → Nat) → Act) → Obj → Prop, (∀ a obj', wpBx P md ops n W0 row oo T r (j + 1) acc ps ds (some obj') a → K a obj') → ∃ obj', (∀ γ w, W0.grownBy w row → w.heap[b]? = some oo → putUpon w b obj' ((execOp (a γ).eval o).run P w)) ∧ K (fun γ => (a γ).put o.dst undef) obj') : wpBx P md ops n W0 row oo T (o :: r) j acc ps ds us a := by
  obtain ⟨obj', h1, h2⟩ := h _ fun _ _ hh => hh
  exact ⟨.own obj', fun γ => ⟨hw γ, hu, b, hb, fun w hg hx => h1 γ w hg hx⟩, h2⟩
theorem wpBx_end (h : T acc us a) : wpBx P md ops n W0 row oo T [] j acc ps ds us a := h
theorem TailX_nil {T : Act → World → Prop} {γ : Nat → Nat} {gs : List Nat} {x : Act} {w : World} (h : T x w) : TailX W0 T γ [] gs x w := h
theorem TailX_cons {T : Act → World → Prop} {γ : Nat → Nat} {i : Nat} {ob : Obj} {r : List (Nat × Obj)} {gs : List Nat} {x : Act} {w : World}
    (h : ∀ g, γ i = g → W0.heap.size ≤ g → w.heap[g]? = some ob → (∀ x ∈ gs, x ≠ g) → TailX W0 T γ r (gs ++ [g]) x w) : TailX W0 T γ ((i, ob) :: r) gs x w := h
end

end Go.Proofs.YteooegliepbcnaaGreat
