/- What the program's ArcCosine, IsVector and AltitudeOf return. -/
import Derived.Test.YtikmepppnechaaaC2
namespace Go.Proofs.Ytikmepppnechaaa
set_option linter.unusedVariables false
set_option linter.unusedSimpArgs false
open Go.RowKit



end Go.Proofs.Ytikmepppnechaaa
