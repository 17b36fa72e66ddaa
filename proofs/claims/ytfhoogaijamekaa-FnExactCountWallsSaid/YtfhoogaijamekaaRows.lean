/-
  No cell of these rows narrows 'for every input' (looked for: loops, veiled, ifaces, maps, wideKeys, modest, calm, conditions, laid).
  DERIVED. THE GIVEN ROWS OF THIS SEAT. 6 by the template 'for every input the law returns true; each argument reads behind the call as it read before'; 0 by the template 'total and deterministic' (their statements: YtfhoogaijamekaaTotals.lean).
  GIVEN WITH THE SEED: the statements are not yours to turn. If you find one false, say at which input.
  Laid BY PROGRAM, IN A SANDBOX (cutbox-rows.mjs): the forced cells as the released guide's own fill.sh prints them over the translation 83879473e74af8ff… (all of the seat's roots in one cut). By AI agents, Wed Nov 11 2026. No macro, syntax, notation, axiom, sorry.
-/
import Derived.Test.YtfhoogaijamekaaChecked
import GoSem.Claim
import GoSem.ClaimJoined
import GoSem.ClaimMapViews
import Derived.JoinedTies
import Derived.KernelRfl
namespace Go.Proofs.Ytfhoogaijamekaa
/- THE CELL 'sum', in the pinned program and in every row, IS THE sha256 OF THE DUMP (.gsa) THAT YtfhoogaijamekaaProg.lean LOADS. Nothing in Lean hashes anything: it is a label: what it is worth is what the hold of that sum in a sandbox is worth. -/
noncomputable def Try.pinned : Pinned := { name := "ytfhoogaijamekaa", sum := "83879473e74af8ff6772ea491d35aa0385ebd647a8b29dc48b4b4d492a2c40c3", checked := Try.checked }
namespace Rows
def none {H : Type} : Left H := { results := [], args := [] }

/-- 'laws.FnExactIsSearch': WHATEVER THE INPUT: true; the input reads as it did. -/
def fnExactIsSearchSpec : ChangeSpec := { name := "fnExactIsSearch", fn := fun _ => fun
  | [d] => { results := [.lit (.bool true)], args := [d] }
  | _ => none }
def fnExactIsSearchRow : OpenClaim := { program := "ytfhoogaijamekaa", sum := "83879473e74af8ff6772ea491d35aa0385ebd647a8b29dc48b4b4d492a2c40c3", func := "loop.example/g00948/laws.FnExactIsSearch", spec := "fnExactIsSearch", apart := false }
def FnExactIsSearchSaid : Prop := fnExactIsSearchRow.holds Try.pinned (OpenSpec.ofChange fnExactIsSearchSpec)

/-- ITS FALSE NEIGHBOUR: 'it returns false'. Refute it at one input. -/
def fnExactIsSearchWrong : ChangeSpec := { name := "fnExactIsSearch", fn := fun _ => fun
  | [d] => { results := [.lit (.bool false)], args := [d] }
  | _ => none }
def FnExactIsSearchWrongFalsely : Prop := fnExactIsSearchRow.holds Try.pinned (OpenSpec.ofChange fnExactIsSearchWrong)

/-- 'laws.FnExactCountWalls': WHATEVER THE INPUT: true; the input reads as it did. -/
def fnExactCountWallsSpec : ChangeSpec := { name := "fnExactCountWalls", fn := fun _ => fun
  | [d] => { results := [.lit (.bool true)], args := [d] }
  | _ => none }
def fnExactCountWallsRow : OpenClaim := { program := "ytfhoogaijamekaa", sum := "83879473e74af8ff6772ea491d35aa0385ebd647a8b29dc48b4b4d492a2c40c3", func := "loop.example/g00948/laws.FnExactCountWalls", spec := "fnExactCountWalls", apart := false }
def FnExactCountWallsSaid : Prop := fnExactCountWallsRow.holds Try.pinned (OpenSpec.ofChange fnExactCountWallsSpec)

/-- ITS FALSE NEIGHBOUR: 'it returns false'. Refute it at one input. -/
def fnExactCountWallsWrong : ChangeSpec := { name := "fnExactCountWalls", fn := fun _ => fun
  | [d] => { results := [.lit (.bool false)], args := [d] }
  | _ => none }
def FnExactCountWallsWrongFalsely : Prop := fnExactCountWallsRow.holds Try.pinned (OpenSpec.ofChange fnExactCountWallsWrong)

/-- 'laws.FnExactArcSine': WHATEVER THE INPUT: true; the input reads as it did. -/
def fnExactArcSineSpec : ChangeSpec := { name := "fnExactArcSine", fn := fun _ => fun
  | [d] => { results := [.lit (.bool true)], args := [d] }
  | _ => none }
def fnExactArcSineRow : OpenClaim := { program := "ytfhoogaijamekaa", sum := "83879473e74af8ff6772ea491d35aa0385ebd647a8b29dc48b4b4d492a2c40c3", func := "loop.example/g00948/laws.FnExactArcSine", spec := "fnExactArcSine", unfollowed := true, recurses := true, apart := false }
def FnExactArcSineSaid : Prop := fnExactArcSineRow.holds Try.pinned (OpenSpec.ofChange fnExactArcSineSpec)

/-- ITS FALSE NEIGHBOUR: 'it returns false'. Refute it at one input. -/
def fnExactArcSineWrong : ChangeSpec := { name := "fnExactArcSine", fn := fun _ => fun
  | [d] => { results := [.lit (.bool false)], args := [d] }
  | _ => none }
def FnExactArcSineWrongFalsely : Prop := fnExactArcSineRow.holds Try.pinned (OpenSpec.ofChange fnExactArcSineWrong)

/-- 'laws.FnExactArcCosine': WHATEVER THE INPUT: true; the input reads as it did. -/
def fnExactArcCosineSpec : ChangeSpec := { name := "fnExactArcCosine", fn := fun _ => fun
  | [d] => { results := [.lit (.bool true)], args := [d] }
  | _ => none }
def fnExactArcCosineRow : OpenClaim := { program := "ytfhoogaijamekaa", sum := "83879473e74af8ff6772ea491d35aa0385ebd647a8b29dc48b4b4d492a2c40c3", func := "loop.example/g00948/laws.FnExactArcCosine", spec := "fnExactArcCosine", unfollowed := true, recurses := true, apart := false }
def FnExactArcCosineSaid : Prop := fnExactArcCosineRow.holds Try.pinned (OpenSpec.ofChange fnExactArcCosineSpec)

/-- ITS FALSE NEIGHBOUR: 'it returns false'. Refute it at one input. -/
def fnExactArcCosineWrong : ChangeSpec := { name := "fnExactArcCosine", fn := fun _ => fun
  | [d] => { results := [.lit (.bool false)], args := [d] }
  | _ => none }
def FnExactArcCosineWrongFalsely : Prop := fnExactArcCosineRow.holds Try.pinned (OpenSpec.ofChange fnExactArcCosineWrong)

/-- 'laws.FnExactArcSineRange': WHATEVER THE INPUT: true; the input reads as it did. -/
def fnExactArcSineRangeSpec : ChangeSpec := { name := "fnExactArcSineRange", fn := fun _ => fun
  | [d] => { results := [.lit (.bool true)], args := [d] }
  | _ => none }
def fnExactArcSineRangeRow : OpenClaim := { program := "ytfhoogaijamekaa", sum := "83879473e74af8ff6772ea491d35aa0385ebd647a8b29dc48b4b4d492a2c40c3", func := "loop.example/g00948/laws.FnExactArcSineRange", spec := "fnExactArcSineRange", unfollowed := true, recurses := true, apart := false }
def FnExactArcSineRangeSaid : Prop := fnExactArcSineRangeRow.holds Try.pinned (OpenSpec.ofChange fnExactArcSineRangeSpec)

/-- ITS FALSE NEIGHBOUR: 'it returns false'. Refute it at one input. -/
def fnExactArcSineRangeWrong : ChangeSpec := { name := "fnExactArcSineRange", fn := fun _ => fun
  | [d] => { results := [.lit (.bool false)], args := [d] }
  | _ => none }
def FnExactArcSineRangeWrongFalsely : Prop := fnExactArcSineRangeRow.holds Try.pinned (OpenSpec.ofChange fnExactArcSineRangeWrong)

/-- 'laws.FnExactAltitudeOf': WHATEVER THE INPUT: true; the input reads as it did. -/
def fnExactAltitudeOfSpec : ChangeSpec := { name := "fnExactAltitudeOf", fn := fun _ => fun
  | [d] => { results := [.lit (.bool true)], args := [d] }
  | _ => none }
def fnExactAltitudeOfRow : OpenClaim := { program := "ytfhoogaijamekaa", sum := "83879473e74af8ff6772ea491d35aa0385ebd647a8b29dc48b4b4d492a2c40c3", func := "loop.example/g00948/laws.FnExactAltitudeOf", spec := "fnExactAltitudeOf", unfollowed := true, recurses := true, apart := false }
def FnExactAltitudeOfSaid : Prop := fnExactAltitudeOfRow.holds Try.pinned (OpenSpec.ofChange fnExactAltitudeOfSpec)

/-- ITS FALSE NEIGHBOUR: 'it returns false'. Refute it at one input. -/
def fnExactAltitudeOfWrong : ChangeSpec := { name := "fnExactAltitudeOf", fn := fun _ => fun
  | [d] => { results := [.lit (.bool false)], args := [d] }
  | _ => none }
def FnExactAltitudeOfWrongFalsely : Prop := fnExactAltitudeOfRow.holds Try.pinned (OpenSpec.ofChange fnExactAltitudeOfWrong)

/- THE SECOND FORM. 'bulk': how many values and letters a reading holds, each counted each time it is reached (what is shared counts as often as it is met; a slice's spare places count too). A statement '..UptoSaid' is the law's where the arguments, and the package variables that the reading takes, are together of bulk at most 1048576: NARROWER than '..Said'. Prove '..Said' where nothing that the law and all that it calls make is longer than what came in: it says more and counts as full. Else prove '..UptoSaid'. A law counts once. -/
mutual
def uptoBulk {H : Type} : DataW H → Nat
  | .lit (.string bytes) => bytes.length + 1
  | .lit _ => 1
  | .nil => 1
  | .ptr d => uptoBulk d + 1
  | .slice elems spare => uptoBulkAll elems + uptoBulkAll spare + 1
  | .agg parts => uptoBulkAll parts + 1
  | .iface _ d => uptoBulk d + 1
  | .map entries => uptoBulkEntries entries + 1
  | .held _ => 1
def uptoBulkAll {H : Type} : List (DataW H) → Nat
  | [] => 0
  | d :: r => uptoBulk d + uptoBulkAll r
def uptoBulkEntries {H : Type} : List (Lit × DataW H) → Nat
  | [] => 0
  | x :: r => uptoBulkEntry x + uptoBulkEntries r
def uptoBulkEntry {H : Type} : Lit × DataW H → Nat
  | (.string bytes, d) => bytes.length + uptoBulk d + 1
  | (_, d) => uptoBulk d + 1
 end
def uptoSmall : (H : Type) → List (DataW H) → Bool := fun _ ds => decide (uptoBulkAll ds ≤ 1048576)
def OpenSpec.upto (s : _root_.Go.ChangeSpec) : _root_.Go.OpenSpec := { _root_.Go.OpenSpec.ofChange s with cond := some uptoSmall }

/-- 'laws.FnExactIsSearch', WHERE WHAT IT READS IS OF BULK AT MOST 1048576: true; the input reads as it did. -/
def fnExactIsSearchUptoRow : OpenClaim := { program := "ytfhoogaijamekaa", sum := "83879473e74af8ff6772ea491d35aa0385ebd647a8b29dc48b4b4d492a2c40c3", func := "loop.example/g00948/laws.FnExactIsSearch", spec := "fnExactIsSearch", apart := false, narrowed := true }
def FnExactIsSearchUptoSaid : Prop := fnExactIsSearchUptoRow.holds Try.pinned (OpenSpec.upto fnExactIsSearchSpec)

/-- 'laws.FnExactCountWalls', WHERE WHAT IT READS IS OF BULK AT MOST 1048576: true; the input reads as it did. -/
def fnExactCountWallsUptoRow : OpenClaim := { program := "ytfhoogaijamekaa", sum := "83879473e74af8ff6772ea491d35aa0385ebd647a8b29dc48b4b4d492a2c40c3", func := "loop.example/g00948/laws.FnExactCountWalls", spec := "fnExactCountWalls", apart := false, narrowed := true }
def FnExactCountWallsUptoSaid : Prop := fnExactCountWallsUptoRow.holds Try.pinned (OpenSpec.upto fnExactCountWallsSpec)

/-- 'laws.FnExactArcSine', WHERE WHAT IT READS IS OF BULK AT MOST 1048576: true; the input reads as it did. -/
def fnExactArcSineUptoRow : OpenClaim := { program := "ytfhoogaijamekaa", sum := "83879473e74af8ff6772ea491d35aa0385ebd647a8b29dc48b4b4d492a2c40c3", func := "loop.example/g00948/laws.FnExactArcSine", spec := "fnExactArcSine", unfollowed := true, recurses := true, apart := false, narrowed := true }
def FnExactArcSineUptoSaid : Prop := fnExactArcSineUptoRow.holds Try.pinned (OpenSpec.upto fnExactArcSineSpec)

/-- 'laws.FnExactArcCosine', WHERE WHAT IT READS IS OF BULK AT MOST 1048576: true; the input reads as it did. -/
def fnExactArcCosineUptoRow : OpenClaim := { program := "ytfhoogaijamekaa", sum := "83879473e74af8ff6772ea491d35aa0385ebd647a8b29dc48b4b4d492a2c40c3", func := "loop.example/g00948/laws.FnExactArcCosine", spec := "fnExactArcCosine", unfollowed := true, recurses := true, apart := false, narrowed := true }
def FnExactArcCosineUptoSaid : Prop := fnExactArcCosineUptoRow.holds Try.pinned (OpenSpec.upto fnExactArcCosineSpec)

/-- 'laws.FnExactArcSineRange', WHERE WHAT IT READS IS OF BULK AT MOST 1048576: true; the input reads as it did. -/
def fnExactArcSineRangeUptoRow : OpenClaim := { program := "ytfhoogaijamekaa", sum := "83879473e74af8ff6772ea491d35aa0385ebd647a8b29dc48b4b4d492a2c40c3", func := "loop.example/g00948/laws.FnExactArcSineRange", spec := "fnExactArcSineRange", unfollowed := true, recurses := true, apart := false, narrowed := true }
def FnExactArcSineRangeUptoSaid : Prop := fnExactArcSineRangeUptoRow.holds Try.pinned (OpenSpec.upto fnExactArcSineRangeSpec)

/-- 'laws.FnExactAltitudeOf', WHERE WHAT IT READS IS OF BULK AT MOST 1048576: true; the input reads as it did. -/
def fnExactAltitudeOfUptoRow : OpenClaim := { program := "ytfhoogaijamekaa", sum := "83879473e74af8ff6772ea491d35aa0385ebd647a8b29dc48b4b4d492a2c40c3", func := "loop.example/g00948/laws.FnExactAltitudeOf", spec := "fnExactAltitudeOf", unfollowed := true, recurses := true, apart := false, narrowed := true }
def FnExactAltitudeOfUptoSaid : Prop := fnExactAltitudeOfUptoRow.holds Try.pinned (OpenSpec.upto fnExactAltitudeOfSpec)

end Rows
end Go.Proofs.Ytfhoogaijamekaa
