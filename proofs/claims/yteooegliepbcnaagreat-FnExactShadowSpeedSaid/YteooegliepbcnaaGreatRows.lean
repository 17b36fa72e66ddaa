/-
  No cell of these rows narrows 'for every input' (looked for: loops, veiled, ifaces, maps, wideKeys, modest, calm, conditions, laid).
  DERIVED. THE GIVEN ROWS OF THIS SEAT. 12 by the template 'for every input the law returns true; each argument reads behind the call as it read before'; 0 by the template 'total and deterministic' (their statements: YteooegliepbcnaaGreatTotals.lean).
  GIVEN WITH THE SEED: the statements are not yours to turn. If you find one false, say at which input.
  Laid BY PROGRAM, IN A SANDBOX (cutbox-rows.mjs): the forced cells as the released guide's own fill.sh prints them over the translation 12ab1708574ce862… (all of the seat's roots in one cut). By AI agents, Wed Nov 11 2026. No macro, syntax, notation, axiom, sorry.
-/
import Derived.Test.YteooegliepbcnaaGreatChecked
import GoSem.Claim
import GoSem.ClaimJoined
import GoSem.ClaimMapViews
import Derived.JoinedTies
import Derived.KernelRfl
namespace Go.Proofs.YteooegliepbcnaaGreat
/- THE CELL 'sum', in the pinned program and in every row, IS THE sha256 OF THE DUMP (.gsa) THAT YteooegliepbcnaaGreatProg.lean LOADS. Nothing in Lean hashes anything: it is a label: what it is worth is what the hold of that sum in a sandbox is worth. -/
noncomputable def Tryz.pinned : Pinned := { name := "yteooegliepbcnaagreat", sum := "12ab1708574ce862c35821234177feb2a3ba581132c3de910b1d26204d0a69d5", checked := Tryz.checked }
namespace Rows
def none {H : Type} : Left H := { results := [], args := [] }

/-- 'laws.FnExactShadowSpeed': WHATEVER THE INPUT: true; the input reads as it did. -/
def fnExactShadowSpeedSpec : ChangeSpec := { name := "fnExactShadowSpeed", fn := fun _ => fun
  | [d1, d2, d3] => { results := [.lit (.bool true)], args := [d1, d2, d3] }
  | _ => none }
def fnExactShadowSpeedRow : OpenClaim := { program := "yteooegliepbcnaagreat", sum := "12ab1708574ce862c35821234177feb2a3ba581132c3de910b1d26204d0a69d5", func := "loop.example/g00948/laws.FnExactShadowSpeed", spec := "fnExactShadowSpeed", unfollowed := true, recurses := true, apart := false }
def FnExactShadowSpeedSaid : Prop := fnExactShadowSpeedRow.holds Tryz.pinned (OpenSpec.ofChange fnExactShadowSpeedSpec)

/-- ITS FALSE NEIGHBOUR: 'it returns false'. Refute it at one input. -/
def fnExactShadowSpeedWrong : ChangeSpec := { name := "fnExactShadowSpeed", fn := fun _ => fun
  | [d1, d2, d3] => { results := [.lit (.bool false)], args := [d1, d2, d3] }
  | _ => none }
def FnExactShadowSpeedWrongFalsely : Prop := fnExactShadowSpeedRow.holds Tryz.pinned (OpenSpec.ofChange fnExactShadowSpeedWrong)

/-- 'laws.FnExactShadowAt': WHATEVER THE INPUT: true; the input reads as it did. -/
def fnExactShadowAtSpec : ChangeSpec := { name := "fnExactShadowAt", fn := fun _ => fun
  | [d1, d2, d3] => { results := [.lit (.bool true)], args := [d1, d2, d3] }
  | _ => none }
def fnExactShadowAtRow : OpenClaim := { program := "yteooegliepbcnaagreat", sum := "12ab1708574ce862c35821234177feb2a3ba581132c3de910b1d26204d0a69d5", func := "loop.example/g00948/laws.FnExactShadowAt", spec := "fnExactShadowAt", unfollowed := true, recurses := true, apart := false }
def FnExactShadowAtSaid : Prop := fnExactShadowAtRow.holds Tryz.pinned (OpenSpec.ofChange fnExactShadowAtSpec)

/-- ITS FALSE NEIGHBOUR: 'it returns false'. Refute it at one input. -/
def fnExactShadowAtWrong : ChangeSpec := { name := "fnExactShadowAt", fn := fun _ => fun
  | [d1, d2, d3] => { results := [.lit (.bool false)], args := [d1, d2, d3] }
  | _ => none }
def FnExactShadowAtWrongFalsely : Prop := fnExactShadowAtRow.holds Tryz.pinned (OpenSpec.ofChange fnExactShadowAtWrong)

/-- 'laws.FnExactNoonShadow': WHATEVER THE INPUT: true; the input reads as it did. -/
def fnExactNoonShadowSpec : ChangeSpec := { name := "fnExactNoonShadow", fn := fun _ => fun
  | [d1, d2] => { results := [.lit (.bool true)], args := [d1, d2] }
  | _ => none }
def fnExactNoonShadowRow : OpenClaim := { program := "yteooegliepbcnaagreat", sum := "12ab1708574ce862c35821234177feb2a3ba581132c3de910b1d26204d0a69d5", func := "loop.example/g00948/laws.FnExactNoonShadow", spec := "fnExactNoonShadow", unfollowed := true, recurses := true, apart := false }
def FnExactNoonShadowSaid : Prop := fnExactNoonShadowRow.holds Tryz.pinned (OpenSpec.ofChange fnExactNoonShadowSpec)

/-- ITS FALSE NEIGHBOUR: 'it returns false'. Refute it at one input. -/
def fnExactNoonShadowWrong : ChangeSpec := { name := "fnExactNoonShadow", fn := fun _ => fun
  | [d1, d2] => { results := [.lit (.bool false)], args := [d1, d2] }
  | _ => none }
def FnExactNoonShadowWrongFalsely : Prop := fnExactNoonShadowRow.holds Tryz.pinned (OpenSpec.ofChange fnExactNoonShadowWrong)

/-- 'laws.FnExactLongestShadow': WHATEVER THE INPUT: true; the input reads as it did. -/
def fnExactLongestShadowSpec : ChangeSpec := { name := "fnExactLongestShadow", fn := fun _ => fun
  | [d1, d2] => { results := [.lit (.bool true)], args := [d1, d2] }
  | _ => none }
def fnExactLongestShadowRow : OpenClaim := { program := "yteooegliepbcnaagreat", sum := "12ab1708574ce862c35821234177feb2a3ba581132c3de910b1d26204d0a69d5", func := "loop.example/g00948/laws.FnExactLongestShadow", spec := "fnExactLongestShadow", unfollowed := true, recurses := true, apart := false }
def FnExactLongestShadowSaid : Prop := fnExactLongestShadowRow.holds Tryz.pinned (OpenSpec.ofChange fnExactLongestShadowSpec)

/-- ITS FALSE NEIGHBOUR: 'it returns false'. Refute it at one input. -/
def fnExactLongestShadowWrong : ChangeSpec := { name := "fnExactLongestShadow", fn := fun _ => fun
  | [d1, d2] => { results := [.lit (.bool false)], args := [d1, d2] }
  | _ => none }
def FnExactLongestShadowWrongFalsely : Prop := fnExactLongestShadowRow.holds Tryz.pinned (OpenSpec.ofChange fnExactLongestShadowWrong)

/-- 'laws.FnExactShadowMinutes': WHATEVER THE INPUT: true; the input reads as it did. -/
def fnExactShadowMinutesSpec : ChangeSpec := { name := "fnExactShadowMinutes", fn := fun _ => fun
  | [d1, d2] => { results := [.lit (.bool true)], args := [d1, d2] }
  | _ => none }
def fnExactShadowMinutesRow : OpenClaim := { program := "yteooegliepbcnaagreat", sum := "12ab1708574ce862c35821234177feb2a3ba581132c3de910b1d26204d0a69d5", func := "loop.example/g00948/laws.FnExactShadowMinutes", spec := "fnExactShadowMinutes", unfollowed := true, recurses := true, apart := false }
def FnExactShadowMinutesSaid : Prop := fnExactShadowMinutesRow.holds Tryz.pinned (OpenSpec.ofChange fnExactShadowMinutesSpec)

/-- ITS FALSE NEIGHBOUR: 'it returns false'. Refute it at one input. -/
def fnExactShadowMinutesWrong : ChangeSpec := { name := "fnExactShadowMinutes", fn := fun _ => fun
  | [d1, d2] => { results := [.lit (.bool false)], args := [d1, d2] }
  | _ => none }
def FnExactShadowMinutesWrongFalsely : Prop := fnExactShadowMinutesRow.holds Tryz.pinned (OpenSpec.ofChange fnExactShadowMinutesWrong)

/-- 'laws.FnExactCurveError': WHATEVER THE INPUT: true; the input reads as it did. -/
def fnExactCurveErrorSpec : ChangeSpec := { name := "fnExactCurveError", fn := fun _ => fun
  | [d1, d2, d3] => { results := [.lit (.bool true)], args := [d1, d2, d3] }
  | _ => none }
def fnExactCurveErrorRow : OpenClaim := { program := "yteooegliepbcnaagreat", sum := "12ab1708574ce862c35821234177feb2a3ba581132c3de910b1d26204d0a69d5", func := "loop.example/g00948/laws.FnExactCurveError", spec := "fnExactCurveError", unfollowed := true, recurses := true, apart := false }
def FnExactCurveErrorSaid : Prop := fnExactCurveErrorRow.holds Tryz.pinned (OpenSpec.ofChange fnExactCurveErrorSpec)

/-- ITS FALSE NEIGHBOUR: 'it returns false'. Refute it at one input. -/
def fnExactCurveErrorWrong : ChangeSpec := { name := "fnExactCurveError", fn := fun _ => fun
  | [d1, d2, d3] => { results := [.lit (.bool false)], args := [d1, d2, d3] }
  | _ => none }
def FnExactCurveErrorWrongFalsely : Prop := fnExactCurveErrorRow.holds Tryz.pinned (OpenSpec.ofChange fnExactCurveErrorWrong)

/-- 'laws.FnExactFullHours': WHATEVER THE INPUT: true; the input reads as it did. -/
def fnExactFullHoursSpec : ChangeSpec := { name := "fnExactFullHours", fn := fun _ => fun
  | [d1, d2] => { results := [.lit (.bool true)], args := [d1, d2] }
  | _ => none }
def fnExactFullHoursRow : OpenClaim := { program := "yteooegliepbcnaagreat", sum := "12ab1708574ce862c35821234177feb2a3ba581132c3de910b1d26204d0a69d5", func := "loop.example/g00948/laws.FnExactFullHours", spec := "fnExactFullHours", unfollowed := true, recurses := true, apart := false }
def FnExactFullHoursSaid : Prop := fnExactFullHoursRow.holds Tryz.pinned (OpenSpec.ofChange fnExactFullHoursSpec)

/-- ITS FALSE NEIGHBOUR: 'it returns false'. Refute it at one input. -/
def fnExactFullHoursWrong : ChangeSpec := { name := "fnExactFullHours", fn := fun _ => fun
  | [d1, d2] => { results := [.lit (.bool false)], args := [d1, d2] }
  | _ => none }
def FnExactFullHoursWrongFalsely : Prop := fnExactFullHoursRow.holds Tryz.pinned (OpenSpec.ofChange fnExactFullHoursWrong)

/-- 'laws.FnExactYearPath': WHATEVER THE INPUT: true; the input reads as it did. -/
def fnExactYearPathSpec : ChangeSpec := { name := "fnExactYearPath", fn := fun _ => fun
  | [d1, d2, d3, d4, d5] => { results := [.lit (.bool true)], args := [d1, d2, d3, d4, d5] }
  | _ => none }
def fnExactYearPathRow : OpenClaim := { program := "yteooegliepbcnaagreat", sum := "12ab1708574ce862c35821234177feb2a3ba581132c3de910b1d26204d0a69d5", func := "loop.example/g00948/laws.FnExactYearPath", spec := "fnExactYearPath", unfollowed := true, recurses := true, apart := false }
def FnExactYearPathSaid : Prop := fnExactYearPathRow.holds Tryz.pinned (OpenSpec.ofChange fnExactYearPathSpec)

/-- ITS FALSE NEIGHBOUR: 'it returns false'. Refute it at one input. -/
def fnExactYearPathWrong : ChangeSpec := { name := "fnExactYearPath", fn := fun _ => fun
  | [d1, d2, d3, d4, d5] => { results := [.lit (.bool false)], args := [d1, d2, d3, d4, d5] }
  | _ => none }
def FnExactYearPathWrongFalsely : Prop := fnExactYearPathRow.holds Tryz.pinned (OpenSpec.ofChange fnExactYearPathWrong)

/-- 'laws.FnExactShadowPath': WHATEVER THE INPUT: true; the input reads as it did. -/
def fnExactShadowPathSpec : ChangeSpec := { name := "fnExactShadowPath", fn := fun _ => fun
  | [d1, d2, d3, d4, d5] => { results := [.lit (.bool true)], args := [d1, d2, d3, d4, d5] }
  | _ => none }
def fnExactShadowPathRow : OpenClaim := { program := "yteooegliepbcnaagreat", sum := "12ab1708574ce862c35821234177feb2a3ba581132c3de910b1d26204d0a69d5", func := "loop.example/g00948/laws.FnExactShadowPath", spec := "fnExactShadowPath", unfollowed := true, recurses := true, apart := false }
def FnExactShadowPathSaid : Prop := fnExactShadowPathRow.holds Tryz.pinned (OpenSpec.ofChange fnExactShadowPathSpec)

/-- ITS FALSE NEIGHBOUR: 'it returns false'. Refute it at one input. -/
def fnExactShadowPathWrong : ChangeSpec := { name := "fnExactShadowPath", fn := fun _ => fun
  | [d1, d2, d3, d4, d5] => { results := [.lit (.bool false)], args := [d1, d2, d3, d4, d5] }
  | _ => none }
def FnExactShadowPathWrongFalsely : Prop := fnExactShadowPathRow.holds Tryz.pinned (OpenSpec.ofChange fnExactShadowPathWrong)

/-- 'laws.FnExactHourLine': WHATEVER THE INPUT: true; the input reads as it did. -/
def fnExactHourLineSpec : ChangeSpec := { name := "fnExactHourLine", fn := fun _ => fun
  | [d1, d2, d3, d4, d5] => { results := [.lit (.bool true)], args := [d1, d2, d3, d4, d5] }
  | _ => none }
def fnExactHourLineRow : OpenClaim := { program := "yteooegliepbcnaagreat", sum := "12ab1708574ce862c35821234177feb2a3ba581132c3de910b1d26204d0a69d5", func := "loop.example/g00948/laws.FnExactHourLine", spec := "fnExactHourLine", unfollowed := true, recurses := true, apart := false }
def FnExactHourLineSaid : Prop := fnExactHourLineRow.holds Tryz.pinned (OpenSpec.ofChange fnExactHourLineSpec)

/-- ITS FALSE NEIGHBOUR: 'it returns false'. Refute it at one input. -/
def fnExactHourLineWrong : ChangeSpec := { name := "fnExactHourLine", fn := fun _ => fun
  | [d1, d2, d3, d4, d5] => { results := [.lit (.bool false)], args := [d1, d2, d3, d4, d5] }
  | _ => none }
def FnExactHourLineWrongFalsely : Prop := fnExactHourLineRow.holds Tryz.pinned (OpenSpec.ofChange fnExactHourLineWrong)

/-- 'laws.FnExactDayLine': WHATEVER THE INPUT: true; the input reads as it did. -/
def fnExactDayLineSpec : ChangeSpec := { name := "fnExactDayLine", fn := fun _ => fun
  | [d1, d2, d3, d4, d5] => { results := [.lit (.bool true)], args := [d1, d2, d3, d4, d5] }
  | _ => none }
def fnExactDayLineRow : OpenClaim := { program := "yteooegliepbcnaagreat", sum := "12ab1708574ce862c35821234177feb2a3ba581132c3de910b1d26204d0a69d5", func := "loop.example/g00948/laws.FnExactDayLine", spec := "fnExactDayLine", unfollowed := true, recurses := true, apart := false }
def FnExactDayLineSaid : Prop := fnExactDayLineRow.holds Tryz.pinned (OpenSpec.ofChange fnExactDayLineSpec)

/-- ITS FALSE NEIGHBOUR: 'it returns false'. Refute it at one input. -/
def fnExactDayLineWrong : ChangeSpec := { name := "fnExactDayLine", fn := fun _ => fun
  | [d1, d2, d3, d4, d5] => { results := [.lit (.bool false)], args := [d1, d2, d3, d4, d5] }
  | _ => none }
def FnExactDayLineWrongFalsely : Prop := fnExactDayLineRow.holds Tryz.pinned (OpenSpec.ofChange fnExactDayLineWrong)

/-- 'laws.FnExactShadingBody': WHATEVER THE INPUT: true; the input reads as it did. -/
def fnExactShadingBodySpec : ChangeSpec := { name := "fnExactShadingBody", fn := fun _ => fun
  | [d1, d2, d3] => { results := [.lit (.bool true)], args := [d1, d2, d3] }
  | _ => none }
def fnExactShadingBodyRow : OpenClaim := { program := "yteooegliepbcnaagreat", sum := "12ab1708574ce862c35821234177feb2a3ba581132c3de910b1d26204d0a69d5", func := "loop.example/g00948/laws.FnExactShadingBody", spec := "fnExactShadingBody", unfollowed := true, recurses := true, apart := false }
def FnExactShadingBodySaid : Prop := fnExactShadingBodyRow.holds Tryz.pinned (OpenSpec.ofChange fnExactShadingBodySpec)

/-- ITS FALSE NEIGHBOUR: 'it returns false'. Refute it at one input. -/
def fnExactShadingBodyWrong : ChangeSpec := { name := "fnExactShadingBody", fn := fun _ => fun
  | [d1, d2, d3] => { results := [.lit (.bool false)], args := [d1, d2, d3] }
  | _ => none }
def FnExactShadingBodyWrongFalsely : Prop := fnExactShadingBodyRow.holds Tryz.pinned (OpenSpec.ofChange fnExactShadingBodyWrong)

/- THE SECOND FORM. 'bulk': how many values and letters a reading holds, each counted each time it is reached (what is shared counts as often as it is met; a slice's spare places count too). A statement '..UptoSaid' is the law's where the arguments, and the package variables that the reading takes, are together of bulk at most 1048576: NARROWER than '..Said'. Prove '..Said' where nothing that the law and all that it calls make is longer than what came in: it says more and counts as full. Else prove '..UptoSaid'. A law counts once. -/
mutual
def uptoBulk {H : Type} : DataW H → Nat
  | .lit (.string bytes) => bytes.length + 1
  | .lit _ => 1
  | .nil => 1
  | .ptr d => uptoBulk d + 1
  | .slice elems spare => uptoBulkAll elems + uptoBulkAll spare + 1
  | .agg parts => uptoBulkAll parts + 1
  | .iface _ d => uptoBulk d + 1
  | .map entries => uptoBulkEntries entries + 1
  | .held _ => 1
def uptoBulkAll {H : Type} : List (DataW H) → Nat
  | [] => 0
  | d :: r => uptoBulk d + uptoBulkAll r
def uptoBulkEntries {H : Type} : List (Lit × DataW H) → Nat
  | [] => 0
  | x :: r => uptoBulkEntry x + uptoBulkEntries r
def uptoBulkEntry {H : Type} : Lit × DataW H → Nat
  | (.string bytes, d) => bytes.length + uptoBulk d + 1
  | (_, d) => uptoBulk d + 1
 end
def uptoSmall : (H : Type) → List (DataW H) → Bool := fun _ ds => decide (uptoBulkAll ds ≤ 1048576)
def OpenSpec.upto (s : _root_.Go.ChangeSpec) : _root_.Go.OpenSpec := { _root_.Go.OpenSpec.ofChange s with cond := some uptoSmall }

/-- 'laws.FnExactShadowSpeed', WHERE WHAT IT READS IS OF BULK AT MOST 1048576: true; the input reads as it did. -/
def fnExactShadowSpeedUptoRow : OpenClaim := { program := "yteooegliepbcnaagreat", sum := "12ab1708574ce862c35821234177feb2a3ba581132c3de910b1d26204d0a69d5", func := "loop.example/g00948/laws.FnExactShadowSpeed", spec := "fnExactShadowSpeed", unfollowed := true, recurses := true, apart := false, narrowed := true }
def FnExactShadowSpeedUptoSaid : Prop := fnExactShadowSpeedUptoRow.holds Tryz.pinned (OpenSpec.upto fnExactShadowSpeedSpec)

/-- 'laws.FnExactShadowAt', WHERE WHAT IT READS IS OF BULK AT MOST 1048576: true; the input reads as it did. -/
def fnExactShadowAtUptoRow : OpenClaim := { program := "yteooegliepbcnaagreat", sum := "12ab1708574ce862c35821234177feb2a3ba581132c3de910b1d26204d0a69d5", func := "loop.example/g00948/laws.FnExactShadowAt", spec := "fnExactShadowAt", unfollowed := true, recurses := true, apart := false, narrowed := true }
def FnExactShadowAtUptoSaid : Prop := fnExactShadowAtUptoRow.holds Tryz.pinned (OpenSpec.upto fnExactShadowAtSpec)

/-- 'laws.FnExactNoonShadow', WHERE WHAT IT READS IS OF BULK AT MOST 1048576: true; the input reads as it did. -/
def fnExactNoonShadowUptoRow : OpenClaim := { program := "yteooegliepbcnaagreat", sum := "12ab1708574ce862c35821234177feb2a3ba581132c3de910b1d26204d0a69d5", func := "loop.example/g00948/laws.FnExactNoonShadow", spec := "fnExactNoonShadow", unfollowed := true, recurses := true, apart := false, narrowed := true }
def FnExactNoonShadowUptoSaid : Prop := fnExactNoonShadowUptoRow.holds Tryz.pinned (OpenSpec.upto fnExactNoonShadowSpec)

/-- 'laws.FnExactLongestShadow', WHERE WHAT IT READS IS OF BULK AT MOST 1048576: true; the input reads as it did. -/
def fnExactLongestShadowUptoRow : OpenClaim := { program := "yteooegliepbcnaagreat", sum := "12ab1708574ce862c35821234177feb2a3ba581132c3de910b1d26204d0a69d5", func := "loop.example/g00948/laws.FnExactLongestShadow", spec := "fnExactLongestShadow", unfollowed := true, recurses := true, apart := false, narrowed := true }
def FnExactLongestShadowUptoSaid : Prop := fnExactLongestShadowUptoRow.holds Tryz.pinned (OpenSpec.upto fnExactLongestShadowSpec)

/-- 'laws.FnExactShadowMinutes', WHERE WHAT IT READS IS OF BULK AT MOST 1048576: true; the input reads as it did. -/
def fnExactShadowMinutesUptoRow : OpenClaim := { program := "yteooegliepbcnaagreat", sum := "12ab1708574ce862c35821234177feb2a3ba581132c3de910b1d26204d0a69d5", func := "loop.example/g00948/laws.FnExactShadowMinutes", spec := "fnExactShadowMinutes", unfollowed := true, recurses := true, apart := false, narrowed := true }
def FnExactShadowMinutesUptoSaid : Prop := fnExactShadowMinutesUptoRow.holds Tryz.pinned (OpenSpec.upto fnExactShadowMinutesSpec)

/-- 'laws.FnExactCurveError', WHERE WHAT IT READS IS OF BULK AT MOST 1048576: true; the input reads as it did. -/
def fnExactCurveErrorUptoRow : OpenClaim := { program := "yteooegliepbcnaagreat", sum := "12ab1708574ce862c35821234177feb2a3ba581132c3de910b1d26204d0a69d5", func := "loop.example/g00948/laws.FnExactCurveError", spec := "fnExactCurveError", unfollowed := true, recurses := true, apart := false, narrowed := true }
def FnExactCurveErrorUptoSaid : Prop := fnExactCurveErrorUptoRow.holds Tryz.pinned (OpenSpec.upto fnExactCurveErrorSpec)

/-- 'laws.FnExactFullHours', WHERE WHAT IT READS IS OF BULK AT MOST 1048576: true; the input reads as it did. -/
def fnExactFullHoursUptoRow : OpenClaim := { program := "yteooegliepbcnaagreat", sum := "12ab1708574ce862c35821234177feb2a3ba581132c3de910b1d26204d0a69d5", func := "loop.example/g00948/laws.FnExactFullHours", spec := "fnExactFullHours", unfollowed := true, recurses := true, apart := false, narrowed := true }
def FnExactFullHoursUptoSaid : Prop := fnExactFullHoursUptoRow.holds Tryz.pinned (OpenSpec.upto fnExactFullHoursSpec)

/-- 'laws.FnExactYearPath', WHERE WHAT IT READS IS OF BULK AT MOST 1048576: true; the input reads as it did. -/
def fnExactYearPathUptoRow : OpenClaim := { program := "yteooegliepbcnaagreat", sum := "12ab1708574ce862c35821234177feb2a3ba581132c3de910b1d26204d0a69d5", func := "loop.example/g00948/laws.FnExactYearPath", spec := "fnExactYearPath", unfollowed := true, recurses := true, apart := false, narrowed := true }
def FnExactYearPathUptoSaid : Prop := fnExactYearPathUptoRow.holds Tryz.pinned (OpenSpec.upto fnExactYearPathSpec)

/-- 'laws.FnExactShadowPath', WHERE WHAT IT READS IS OF BULK AT MOST 1048576: true; the input reads as it did. -/
def fnExactShadowPathUptoRow : OpenClaim := { program := "yteooegliepbcnaagreat", sum := "12ab1708574ce862c35821234177feb2a3ba581132c3de910b1d26204d0a69d5", func := "loop.example/g00948/laws.FnExactShadowPath", spec := "fnExactShadowPath", unfollowed := true, recurses := true, apart := false, narrowed := true }
def FnExactShadowPathUptoSaid : Prop := fnExactShadowPathUptoRow.holds Tryz.pinned (OpenSpec.upto fnExactShadowPathSpec)

/-- 'laws.FnExactHourLine', WHERE WHAT IT READS IS OF BULK AT MOST 1048576: true; the input reads as it did. -/
def fnExactHourLineUptoRow : OpenClaim := { program := "yteooegliepbcnaagreat", sum := "12ab1708574ce862c35821234177feb2a3ba581132c3de910b1d26204d0a69d5", func := "loop.example/g00948/laws.FnExactHourLine", spec := "fnExactHourLine", unfollowed := true, recurses := true, apart := false, narrowed := true }
def FnExactHourLineUptoSaid : Prop := fnExactHourLineUptoRow.holds Tryz.pinned (OpenSpec.upto fnExactHourLineSpec)

/-- 'laws.FnExactDayLine', WHERE WHAT IT READS IS OF BULK AT MOST 1048576: true; the input reads as it did. -/
def fnExactDayLineUptoRow : OpenClaim := { program := "yteooegliepbcnaagreat", sum := "12ab1708574ce862c35821234177feb2a3ba581132c3de910b1d26204d0a69d5", func := "loop.example/g00948/laws.FnExactDayLine", spec := "fnExactDayLine", unfollowed := true, recurses := true, apart := false, narrowed := true }
def FnExactDayLineUptoSaid : Prop := fnExactDayLineUptoRow.holds Tryz.pinned (OpenSpec.upto fnExactDayLineSpec)

/-- 'laws.FnExactShadingBody', WHERE WHAT IT READS IS OF BULK AT MOST 1048576: true; the input reads as it did. -/
def fnExactShadingBodyUptoRow : OpenClaim := { program := "yteooegliepbcnaagreat", sum := "12ab1708574ce862c35821234177feb2a3ba581132c3de910b1d26204d0a69d5", func := "loop.example/g00948/laws.FnExactShadingBody", spec := "fnExactShadingBody", unfollowed := true, recurses := true, apart := false, narrowed := true }
def FnExactShadingBodyUptoSaid : Prop := fnExactShadingBodyUptoRow.holds Tryz.pinned (OpenSpec.upto fnExactShadingBodySpec)

end Rows
end Go.Proofs.YteooegliepbcnaaGreat
