/- Plain laws: codes of dials. No program is in sight here. -/
import Derived.Test.YteooegliepbcnaaGreatMath4
namespace Go.Proofs.YteooegliepbcnaaGreat
set_option linter.unusedVariables false
set_option linter.unusedSimpArgs false
set_option maxRecDepth 10000

/-- The code of a dial and of ranges. -/
def dcM (d r : Bool) : Int := if d = true then (if r = true then 0 else 2) else 1

end Go.Proofs.YteooegliepbcnaaGreat
