/- What the program's functions on the light of the minutes of a day return. -/
import Derived.Test.YteooegliepbcnaaGreatC3
import Derived.Test.YteooegliepbcnaaGreatMath3
namespace Go.Proofs.YteooegliepbcnaaGreat
set_option linter.unusedVariables false
set_option linter.unusedSimpArgs false
set_option maxRecDepth 10000
open Go.RowKit




end Go.Proofs.YteooegliepbcnaaGreat
