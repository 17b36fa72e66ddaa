/-
  No cell of these rows narrows 'for every input' (looked for: loops, veiled, ifaces, maps, wideKeys, modest, calm, conditions, laid).
  DERIVED. THE GIVEN ROWS OF THIS SEAT. 12 by the template 'for every input the law returns true; each argument reads behind the call as it read before'; 0 by the template 'total and deterministic' (their statements: YtikmepppnechaaaTotals.lean).
  GIVEN WITH THE SEED: the statements are not yours to turn. If you find one false, say at which input.
  Laid BY PROGRAM, IN A SANDBOX (cutbox-rows.mjs): the forced cells as the released guide's own fill.sh prints them over the translation 3483e02c8f7084b1… (all of the seat's roots in one cut). By AI agents, Wed Nov 11 2026. No macro, syntax, notation, axiom, sorry.
-/
import Derived.Test.YtikmepppnechaaaChecked
import GoSem.Claim
import GoSem.ClaimJoined
import GoSem.ClaimMapViews
import Derived.JoinedTies
import Derived.KernelRfl
namespace Go.Proofs.Ytikmepppnechaaa
/- THE CELL 'sum', in the pinned program and in every row, IS THE sha256 OF THE DUMP (.gsa) THAT YtikmepppnechaaaProg.lean LOADS. Nothing in Lean hashes anything: it is a label: what it is worth is what the hold of that sum in a sandbox is worth. -/
noncomputable def Try.pinned : Pinned := { name := "ytikmepppnechaaa", sum := "3483e02c8f7084b1cb9cc02ad66f6b21552e640b2b4dc36018b3ff44ab737103", checked := Try.checked }
namespace Rows
def none {H : Type} : Left H := { results := [], args := [] }

/-- 'laws.FnExactDeclination': WHATEVER THE INPUT: true; the input reads as it did. -/
def fnExactDeclinationSpec : ChangeSpec := { name := "fnExactDeclination", fn := fun _ => fun
  | [d] => { results := [.lit (.bool true)], args := [d] }
  | _ => none }
def fnExactDeclinationRow : OpenClaim := { program := "ytikmepppnechaaa", sum := "3483e02c8f7084b1cb9cc02ad66f6b21552e640b2b4dc36018b3ff44ab737103", func := "loop.example/g00948/laws.FnExactDeclination", spec := "fnExactDeclination", unfollowed := true, recurses := true, apart := false }
def FnExactDeclinationSaid : Prop := fnExactDeclinationRow.holds Try.pinned (OpenSpec.ofChange fnExactDeclinationSpec)

/-- ITS FALSE NEIGHBOUR: 'it returns false'. Refute it at one input. -/
def fnExactDeclinationWrong : ChangeSpec := { name := "fnExactDeclination", fn := fun _ => fun
  | [d] => { results := [.lit (.bool false)], args := [d] }
  | _ => none }
def FnExactDeclinationWrongFalsely : Prop := fnExactDeclinationRow.holds Try.pinned (OpenSpec.ofChange fnExactDeclinationWrong)

/-- 'laws.FnExactLampError': WHATEVER THE INPUT: true; the input reads as it did. -/
def fnExactLampErrorSpec : ChangeSpec := { name := "fnExactLampError", fn := fun _ => fun
  | [d1, d2, d3] => { results := [.lit (.bool true)], args := [d1, d2, d3] }
  | _ => none }
def fnExactLampErrorRow : OpenClaim := { program := "ytikmepppnechaaa", sum := "3483e02c8f7084b1cb9cc02ad66f6b21552e640b2b4dc36018b3ff44ab737103", func := "loop.example/g00948/laws.FnExactLampError", spec := "fnExactLampError", unfollowed := true, recurses := true, apart := false }
def FnExactLampErrorSaid : Prop := fnExactLampErrorRow.holds Try.pinned (OpenSpec.ofChange fnExactLampErrorSpec)

/-- ITS FALSE NEIGHBOUR: 'it returns false'. Refute it at one input. -/
def fnExactLampErrorWrong : ChangeSpec := { name := "fnExactLampError", fn := fun _ => fun
  | [d1, d2, d3] => { results := [.lit (.bool false)], args := [d1, d2, d3] }
  | _ => none }
def FnExactLampErrorWrongFalsely : Prop := fnExactLampErrorRow.holds Try.pinned (OpenSpec.ofChange fnExactLampErrorWrong)

/-- 'laws.FnExactIsUpAt': WHATEVER THE INPUT: true; the input reads as it did. -/
def fnExactIsUpAtSpec : ChangeSpec := { name := "fnExactIsUpAt", fn := fun _ => fun
  | [d1, d2, d3] => { results := [.lit (.bool true)], args := [d1, d2, d3] }
  | _ => none }
def fnExactIsUpAtRow : OpenClaim := { program := "ytikmepppnechaaa", sum := "3483e02c8f7084b1cb9cc02ad66f6b21552e640b2b4dc36018b3ff44ab737103", func := "loop.example/g00948/laws.FnExactIsUpAt", spec := "fnExactIsUpAt", unfollowed := true, recurses := true, apart := false }
def FnExactIsUpAtSaid : Prop := fnExactIsUpAtRow.holds Try.pinned (OpenSpec.ofChange fnExactIsUpAtSpec)

/-- ITS FALSE NEIGHBOUR: 'it returns false'. Refute it at one input. -/
def fnExactIsUpAtWrong : ChangeSpec := { name := "fnExactIsUpAt", fn := fun _ => fun
  | [d1, d2, d3] => { results := [.lit (.bool false)], args := [d1, d2, d3] }
  | _ => none }
def FnExactIsUpAtWrongFalsely : Prop := fnExactIsUpAtRow.holds Try.pinned (OpenSpec.ofChange fnExactIsUpAtWrong)

/-- 'laws.FnExactSunOfDay': WHATEVER THE INPUT: true; the input reads as it did. -/
def fnExactSunOfDaySpec : ChangeSpec := { name := "fnExactSunOfDay", fn := fun _ => fun
  | [d1, d2, d3] => { results := [.lit (.bool true)], args := [d1, d2, d3] }
  | _ => none }
def fnExactSunOfDayRow : OpenClaim := { program := "ytikmepppnechaaa", sum := "3483e02c8f7084b1cb9cc02ad66f6b21552e640b2b4dc36018b3ff44ab737103", func := "loop.example/g00948/laws.FnExactSunOfDay", spec := "fnExactSunOfDay", unfollowed := true, recurses := true, apart := false }
def FnExactSunOfDaySaid : Prop := fnExactSunOfDayRow.holds Try.pinned (OpenSpec.ofChange fnExactSunOfDaySpec)

/-- ITS FALSE NEIGHBOUR: 'it returns false'. Refute it at one input. -/
def fnExactSunOfDayWrong : ChangeSpec := { name := "fnExactSunOfDay", fn := fun _ => fun
  | [d1, d2, d3] => { results := [.lit (.bool false)], args := [d1, d2, d3] }
  | _ => none }
def FnExactSunOfDayWrongFalsely : Prop := fnExactSunOfDayRow.holds Try.pinned (OpenSpec.ofChange fnExactSunOfDayWrong)

/-- 'laws.FnExactLightAt': WHATEVER THE INPUT: true; the input reads as it did. -/
def fnExactLightAtSpec : ChangeSpec := { name := "fnExactLightAt", fn := fun _ => fun
  | [d1, d2, d3, d4] => { results := [.lit (.bool true)], args := [d1, d2, d3, d4] }
  | _ => none }
def fnExactLightAtRow : OpenClaim := { program := "ytikmepppnechaaa", sum := "3483e02c8f7084b1cb9cc02ad66f6b21552e640b2b4dc36018b3ff44ab737103", func := "loop.example/g00948/laws.FnExactLightAt", spec := "fnExactLightAt", unfollowed := true, recurses := true, apart := false }
def FnExactLightAtSaid : Prop := fnExactLightAtRow.holds Try.pinned (OpenSpec.ofChange fnExactLightAtSpec)

/-- ITS FALSE NEIGHBOUR: 'it returns false'. Refute it at one input. -/
def fnExactLightAtWrong : ChangeSpec := { name := "fnExactLightAt", fn := fun _ => fun
  | [d1, d2, d3, d4] => { results := [.lit (.bool false)], args := [d1, d2, d3, d4] }
  | _ => none }
def FnExactLightAtWrongFalsely : Prop := fnExactLightAtRow.holds Try.pinned (OpenSpec.ofChange fnExactLightAtWrong)

/-- 'laws.FnExactLitMinutes': WHATEVER THE INPUT: true; the input reads as it did. -/
def fnExactLitMinutesSpec : ChangeSpec := { name := "fnExactLitMinutes", fn := fun _ => fun
  | [d1, d2, d3] => { results := [.lit (.bool true)], args := [d1, d2, d3] }
  | _ => none }
def fnExactLitMinutesRow : OpenClaim := { program := "ytikmepppnechaaa", sum := "3483e02c8f7084b1cb9cc02ad66f6b21552e640b2b4dc36018b3ff44ab737103", func := "loop.example/g00948/laws.FnExactLitMinutes", spec := "fnExactLitMinutes", unfollowed := true, recurses := true, apart := false }
def FnExactLitMinutesSaid : Prop := fnExactLitMinutesRow.holds Try.pinned (OpenSpec.ofChange fnExactLitMinutesSpec)

/-- ITS FALSE NEIGHBOUR: 'it returns false'. Refute it at one input. -/
def fnExactLitMinutesWrong : ChangeSpec := { name := "fnExactLitMinutes", fn := fun _ => fun
  | [d1, d2, d3] => { results := [.lit (.bool false)], args := [d1, d2, d3] }
  | _ => none }
def FnExactLitMinutesWrongFalsely : Prop := fnExactLitMinutesRow.holds Try.pinned (OpenSpec.ofChange fnExactLitMinutesWrong)

/-- 'laws.FnExactTwilightMinutes': WHATEVER THE INPUT: true; the input reads as it did. -/
def fnExactTwilightMinutesSpec : ChangeSpec := { name := "fnExactTwilightMinutes", fn := fun _ => fun
  | [d1, d2, d3, d4] => { results := [.lit (.bool true)], args := [d1, d2, d3, d4] }
  | _ => none }
def fnExactTwilightMinutesRow : OpenClaim := { program := "ytikmepppnechaaa", sum := "3483e02c8f7084b1cb9cc02ad66f6b21552e640b2b4dc36018b3ff44ab737103", func := "loop.example/g00948/laws.FnExactTwilightMinutes", spec := "fnExactTwilightMinutes", unfollowed := true, recurses := true, apart := false }
def FnExactTwilightMinutesSaid : Prop := fnExactTwilightMinutesRow.holds Try.pinned (OpenSpec.ofChange fnExactTwilightMinutesSpec)

/-- ITS FALSE NEIGHBOUR: 'it returns false'. Refute it at one input. -/
def fnExactTwilightMinutesWrong : ChangeSpec := { name := "fnExactTwilightMinutes", fn := fun _ => fun
  | [d1, d2, d3, d4] => { results := [.lit (.bool false)], args := [d1, d2, d3, d4] }
  | _ => none }
def FnExactTwilightMinutesWrongFalsely : Prop := fnExactTwilightMinutesRow.holds Try.pinned (OpenSpec.ofChange fnExactTwilightMinutesWrong)

/-- 'laws.FnExactSetBounds': WHATEVER THE INPUT: true; the input reads as it did. -/
def fnExactSetBoundsSpec : ChangeSpec := { name := "fnExactSetBounds", fn := fun _ => fun
  | [d1, d2, d3] => { results := [.lit (.bool true)], args := [d1, d2, d3] }
  | _ => none }
def fnExactSetBoundsRow : OpenClaim := { program := "ytikmepppnechaaa", sum := "3483e02c8f7084b1cb9cc02ad66f6b21552e640b2b4dc36018b3ff44ab737103", func := "loop.example/g00948/laws.FnExactSetBounds", spec := "fnExactSetBounds", unfollowed := true, recurses := true, apart := false }
def FnExactSetBoundsSaid : Prop := fnExactSetBoundsRow.holds Try.pinned (OpenSpec.ofChange fnExactSetBoundsSpec)

/-- ITS FALSE NEIGHBOUR: 'it returns false'. Refute it at one input. -/
def fnExactSetBoundsWrong : ChangeSpec := { name := "fnExactSetBounds", fn := fun _ => fun
  | [d1, d2, d3] => { results := [.lit (.bool false)], args := [d1, d2, d3] }
  | _ => none }
def FnExactSetBoundsWrongFalsely : Prop := fnExactSetBoundsRow.holds Try.pinned (OpenSpec.ofChange fnExactSetBoundsWrong)

/-- 'laws.FnExactUpMinutes': WHATEVER THE INPUT: true; the input reads as it did. -/
def fnExactUpMinutesSpec : ChangeSpec := { name := "fnExactUpMinutes", fn := fun _ => fun
  | [d1, d2, d3] => { results := [.lit (.bool true)], args := [d1, d2, d3] }
  | _ => none }
def fnExactUpMinutesRow : OpenClaim := { program := "ytikmepppnechaaa", sum := "3483e02c8f7084b1cb9cc02ad66f6b21552e640b2b4dc36018b3ff44ab737103", func := "loop.example/g00948/laws.FnExactUpMinutes", spec := "fnExactUpMinutes", unfollowed := true, recurses := true, apart := false }
def FnExactUpMinutesSaid : Prop := fnExactUpMinutesRow.holds Try.pinned (OpenSpec.ofChange fnExactUpMinutesSpec)

/-- ITS FALSE NEIGHBOUR: 'it returns false'. Refute it at one input. -/
def fnExactUpMinutesWrong : ChangeSpec := { name := "fnExactUpMinutes", fn := fun _ => fun
  | [d1, d2, d3] => { results := [.lit (.bool false)], args := [d1, d2, d3] }
  | _ => none }
def FnExactUpMinutesWrongFalsely : Prop := fnExactUpMinutesRow.holds Try.pinned (OpenSpec.ofChange fnExactUpMinutesWrong)

/-- 'laws.FnExactRiseBounds': WHATEVER THE INPUT: true; the input reads as it did. -/
def fnExactRiseBoundsSpec : ChangeSpec := { name := "fnExactRiseBounds", fn := fun _ => fun
  | [d1, d2, d3] => { results := [.lit (.bool true)], args := [d1, d2, d3] }
  | _ => none }
def fnExactRiseBoundsRow : OpenClaim := { program := "ytikmepppnechaaa", sum := "3483e02c8f7084b1cb9cc02ad66f6b21552e640b2b4dc36018b3ff44ab737103", func := "loop.example/g00948/laws.FnExactRiseBounds", spec := "fnExactRiseBounds", unfollowed := true, recurses := true, apart := false }
def FnExactRiseBoundsSaid : Prop := fnExactRiseBoundsRow.holds Try.pinned (OpenSpec.ofChange fnExactRiseBoundsSpec)

/-- ITS FALSE NEIGHBOUR: 'it returns false'. Refute it at one input. -/
def fnExactRiseBoundsWrong : ChangeSpec := { name := "fnExactRiseBounds", fn := fun _ => fun
  | [d1, d2, d3] => { results := [.lit (.bool false)], args := [d1, d2, d3] }
  | _ => none }
def FnExactRiseBoundsWrongFalsely : Prop := fnExactRiseBoundsRow.holds Try.pinned (OpenSpec.ofChange fnExactRiseBoundsWrong)

/-- 'laws.FnExactLongestDay': WHATEVER THE INPUT: true; the input reads as it did. -/
def fnExactLongestDaySpec : ChangeSpec := { name := "fnExactLongestDay", fn := fun _ => fun
  | [d1, d2, d3, d4] => { results := [.lit (.bool true)], args := [d1, d2, d3, d4] }
  | _ => none }
def fnExactLongestDayRow : OpenClaim := { program := "ytikmepppnechaaa", sum := "3483e02c8f7084b1cb9cc02ad66f6b21552e640b2b4dc36018b3ff44ab737103", func := "loop.example/g00948/laws.FnExactLongestDay", spec := "fnExactLongestDay", unfollowed := true, recurses := true, apart := false }
def FnExactLongestDaySaid : Prop := fnExactLongestDayRow.holds Try.pinned (OpenSpec.ofChange fnExactLongestDaySpec)

/-- ITS FALSE NEIGHBOUR: 'it returns false'. Refute it at one input. -/
def fnExactLongestDayWrong : ChangeSpec := { name := "fnExactLongestDay", fn := fun _ => fun
  | [d1, d2, d3, d4] => { results := [.lit (.bool false)], args := [d1, d2, d3, d4] }
  | _ => none }
def FnExactLongestDayWrongFalsely : Prop := fnExactLongestDayRow.holds Try.pinned (OpenSpec.ofChange fnExactLongestDayWrong)

/-- 'laws.FnExactDayKind': WHATEVER THE INPUT: true; the input reads as it did. -/
def fnExactDayKindSpec : ChangeSpec := { name := "fnExactDayKind", fn := fun _ => fun
  | [d1, d2, d3] => { results := [.lit (.bool true)], args := [d1, d2, d3] }
  | _ => none }
def fnExactDayKindRow : OpenClaim := { program := "ytikmepppnechaaa", sum := "3483e02c8f7084b1cb9cc02ad66f6b21552e640b2b4dc36018b3ff44ab737103", func := "loop.example/g00948/laws.FnExactDayKind", spec := "fnExactDayKind", unfollowed := true, recurses := true, apart := false }
def FnExactDayKindSaid : Prop := fnExactDayKindRow.holds Try.pinned (OpenSpec.ofChange fnExactDayKindSpec)

/-- ITS FALSE NEIGHBOUR: 'it returns false'. Refute it at one input. -/
def fnExactDayKindWrong : ChangeSpec := { name := "fnExactDayKind", fn := fun _ => fun
  | [d1, d2, d3] => { results := [.lit (.bool false)], args := [d1, d2, d3] }
  | _ => none }
def FnExactDayKindWrongFalsely : Prop := fnExactDayKindRow.holds Try.pinned (OpenSpec.ofChange fnExactDayKindWrong)

/- THE SECOND FORM. 'bulk': how many values and letters a reading holds, each counted each time it is reached (what is shared counts as often as it is met; a slice's spare places count too). A statement '..UptoSaid' is the law's where the arguments, and the package variables that the reading takes, are together of bulk at most 1048576: NARROWER than '..Said'. Prove '..Said' where nothing that the law and all that it calls make is longer than what came in: it says more and counts as full. Else prove '..UptoSaid'. A law counts once. -/
mutual
def uptoBulk {H : Type} : DataW H → Nat
  | .lit (.string bytes) => bytes.length + 1
  | .lit _ => 1
  | .nil => 1
  | .ptr d => uptoBulk d + 1
  | .slice elems spare => uptoBulkAll elems + uptoBulkAll spare + 1
  | .agg parts => uptoBulkAll parts + 1
  | .iface _ d => uptoBulk d + 1
  | .map entries => uptoBulkEntries entries + 1
  | .held _ => 1
def uptoBulkAll {H : Type} : List (DataW H) → Nat
  | [] => 0
  | d :: r => uptoBulk d + uptoBulkAll r
def uptoBulkEntries {H : Type} : List (Lit × DataW H) → Nat
  | [] => 0
  | x :: r => uptoBulkEntry x + uptoBulkEntries r
def uptoBulkEntry {H : Type} : Lit × DataW H → Nat
  | (.string bytes, d) => bytes.length + uptoBulk d + 1
  | (_, d) => uptoBulk d + 1
 end
def uptoSmall : (H : Type) → List (DataW H) → Bool := fun _ ds => decide (uptoBulkAll ds ≤ 1048576)
def OpenSpec.upto (s : _root_.Go.ChangeSpec) : _root_.Go.OpenSpec := { _root_.Go.OpenSpec.ofChange s with cond := some uptoSmall }

/-- 'laws.FnExactDeclination', WHERE WHAT IT READS IS OF BULK AT MOST 1048576: true; the input reads as it did. -/
def fnExactDeclinationUptoRow : OpenClaim := { program := "ytikmepppnechaaa", sum := "3483e02c8f7084b1cb9cc02ad66f6b21552e640b2b4dc36018b3ff44ab737103", func := "loop.example/g00948/laws.FnExactDeclination", spec := "fnExactDeclination", unfollowed := true, recurses := true, apart := false, narrowed := true }
def FnExactDeclinationUptoSaid : Prop := fnExactDeclinationUptoRow.holds Try.pinned (OpenSpec.upto fnExactDeclinationSpec)

/-- 'laws.FnExactLampError', WHERE WHAT IT READS IS OF BULK AT MOST 1048576: true; the input reads as it did. -/
def fnExactLampErrorUptoRow : OpenClaim := { program := "ytikmepppnechaaa", sum := "3483e02c8f7084b1cb9cc02ad66f6b21552e640b2b4dc36018b3ff44ab737103", func := "loop.example/g00948/laws.FnExactLampError", spec := "fnExactLampError", unfollowed := true, recurses := true, apart := false, narrowed := true }
def FnExactLampErrorUptoSaid : Prop := fnExactLampErrorUptoRow.holds Try.pinned (OpenSpec.upto fnExactLampErrorSpec)

/-- 'laws.FnExactIsUpAt', WHERE WHAT IT READS IS OF BULK AT MOST 1048576: true; the input reads as it did. -/
def fnExactIsUpAtUptoRow : OpenClaim := { program := "ytikmepppnechaaa", sum := "3483e02c8f7084b1cb9cc02ad66f6b21552e640b2b4dc36018b3ff44ab737103", func := "loop.example/g00948/laws.FnExactIsUpAt", spec := "fnExactIsUpAt", unfollowed := true, recurses := true, apart := false, narrowed := true }
def FnExactIsUpAtUptoSaid : Prop := fnExactIsUpAtUptoRow.holds Try.pinned (OpenSpec.upto fnExactIsUpAtSpec)

/-- 'laws.FnExactSunOfDay', WHERE WHAT IT READS IS OF BULK AT MOST 1048576: true; the input reads as it did. -/
def fnExactSunOfDayUptoRow : OpenClaim := { program := "ytikmepppnechaaa", sum := "3483e02c8f7084b1cb9cc02ad66f6b21552e640b2b4dc36018b3ff44ab737103", func := "loop.example/g00948/laws.FnExactSunOfDay", spec := "fnExactSunOfDay", unfollowed := true, recurses := true, apart := false, narrowed := true }
def FnExactSunOfDayUptoSaid : Prop := fnExactSunOfDayUptoRow.holds Try.pinned (OpenSpec.upto fnExactSunOfDaySpec)

/-- 'laws.FnExactLightAt', WHERE WHAT IT READS IS OF BULK AT MOST 1048576: true; the input reads as it did. -/
def fnExactLightAtUptoRow : OpenClaim := { program := "ytikmepppnechaaa", sum := "3483e02c8f7084b1cb9cc02ad66f6b21552e640b2b4dc36018b3ff44ab737103", func := "loop.example/g00948/laws.FnExactLightAt", spec := "fnExactLightAt", unfollowed := true, recurses := true, apart := false, narrowed := true }
def FnExactLightAtUptoSaid : Prop := fnExactLightAtUptoRow.holds Try.pinned (OpenSpec.upto fnExactLightAtSpec)

/-- 'laws.FnExactLitMinutes', WHERE WHAT IT READS IS OF BULK AT MOST 1048576: true; the input reads as it did. -/
def fnExactLitMinutesUptoRow : OpenClaim := { program := "ytikmepppnechaaa", sum := "3483e02c8f7084b1cb9cc02ad66f6b21552e640b2b4dc36018b3ff44ab737103", func := "loop.example/g00948/laws.FnExactLitMinutes", spec := "fnExactLitMinutes", unfollowed := true, recurses := true, apart := false, narrowed := true }
def FnExactLitMinutesUptoSaid : Prop := fnExactLitMinutesUptoRow.holds Try.pinned (OpenSpec.upto fnExactLitMinutesSpec)

/-- 'laws.FnExactTwilightMinutes', WHERE WHAT IT READS IS OF BULK AT MOST 1048576: true; the input reads as it did. -/
def fnExactTwilightMinutesUptoRow : OpenClaim := { program := "ytikmepppnechaaa", sum := "3483e02c8f7084b1cb9cc02ad66f6b21552e640b2b4dc36018b3ff44ab737103", func := "loop.example/g00948/laws.FnExactTwilightMinutes", spec := "fnExactTwilightMinutes", unfollowed := true, recurses := true, apart := false, narrowed := true }
def FnExactTwilightMinutesUptoSaid : Prop := fnExactTwilightMinutesUptoRow.holds Try.pinned (OpenSpec.upto fnExactTwilightMinutesSpec)

/-- 'laws.FnExactSetBounds', WHERE WHAT IT READS IS OF BULK AT MOST 1048576: true; the input reads as it did. -/
def fnExactSetBoundsUptoRow : OpenClaim := { program := "ytikmepppnechaaa", sum := "3483e02c8f7084b1cb9cc02ad66f6b21552e640b2b4dc36018b3ff44ab737103", func := "loop.example/g00948/laws.FnExactSetBounds", spec := "fnExactSetBounds", unfollowed := true, recurses := true, apart := false, narrowed := true }
def FnExactSetBoundsUptoSaid : Prop := fnExactSetBoundsUptoRow.holds Try.pinned (OpenSpec.upto fnExactSetBoundsSpec)

/-- 'laws.FnExactUpMinutes', WHERE WHAT IT READS IS OF BULK AT MOST 1048576: true; the input reads as it did. -/
def fnExactUpMinutesUptoRow : OpenClaim := { program := "ytikmepppnechaaa", sum := "3483e02c8f7084b1cb9cc02ad66f6b21552e640b2b4dc36018b3ff44ab737103", func := "loop.example/g00948/laws.FnExactUpMinutes", spec := "fnExactUpMinutes", unfollowed := true, recurses := true, apart := false, narrowed := true }
def FnExactUpMinutesUptoSaid : Prop := fnExactUpMinutesUptoRow.holds Try.pinned (OpenSpec.upto fnExactUpMinutesSpec)

/-- 'laws.FnExactRiseBounds', WHERE WHAT IT READS IS OF BULK AT MOST 1048576: true; the input reads as it did. -/
def fnExactRiseBoundsUptoRow : OpenClaim := { program := "ytikmepppnechaaa", sum := "3483e02c8f7084b1cb9cc02ad66f6b21552e640b2b4dc36018b3ff44ab737103", func := "loop.example/g00948/laws.FnExactRiseBounds", spec := "fnExactRiseBounds", unfollowed := true, recurses := true, apart := false, narrowed := true }
def FnExactRiseBoundsUptoSaid : Prop := fnExactRiseBoundsUptoRow.holds Try.pinned (OpenSpec.upto fnExactRiseBoundsSpec)

/-- 'laws.FnExactLongestDay', WHERE WHAT IT READS IS OF BULK AT MOST 1048576: true; the input reads as it did. -/
def fnExactLongestDayUptoRow : OpenClaim := { program := "ytikmepppnechaaa", sum := "3483e02c8f7084b1cb9cc02ad66f6b21552e640b2b4dc36018b3ff44ab737103", func := "loop.example/g00948/laws.FnExactLongestDay", spec := "fnExactLongestDay", unfollowed := true, recurses := true, apart := false, narrowed := true }
def FnExactLongestDayUptoSaid : Prop := fnExactLongestDayUptoRow.holds Try.pinned (OpenSpec.upto fnExactLongestDaySpec)

/-- 'laws.FnExactDayKind', WHERE WHAT IT READS IS OF BULK AT MOST 1048576: true; the input reads as it did. -/
def fnExactDayKindUptoRow : OpenClaim := { program := "ytikmepppnechaaa", sum := "3483e02c8f7084b1cb9cc02ad66f6b21552e640b2b4dc36018b3ff44ab737103", func := "loop.example/g00948/laws.FnExactDayKind", spec := "fnExactDayKind", unfollowed := true, recurses := true, apart := false, narrowed := true }
def FnExactDayKindUptoSaid : Prop := fnExactDayKindUptoRow.holds Try.pinned (OpenSpec.upto fnExactDayKindSpec)

end Rows
end Go.Proofs.Ytikmepppnechaaa
