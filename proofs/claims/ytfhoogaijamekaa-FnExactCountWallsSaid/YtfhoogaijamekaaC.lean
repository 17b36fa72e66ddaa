/- What the program's functions on the calendar, the sun and the sky return. -/
import Derived.Test.YtfhoogaijamekaaB
import Derived.Test.YtfhoogaijamekaaMath2
namespace Go.Proofs.Ytfhoogaijamekaa
open Go.RowKit



end Go.Proofs.Ytfhoogaijamekaa
