/- The print's words for this seat, those that are used. -/
import Derived.Test.YtndbdnkpnjibkaaDoorWInv
import Derived.Test.YtndbdnkpnjibkaaDoorWFootNe
namespace Go.Proofs.YtndbdnkpnjibkaaDoorW.PrintWords
open Go.RowKit
end Go.Proofs.YtndbdnkpnjibkaaDoorW.PrintWords
namespace Go.Proofs.YtndbdnkpnjibkaaDoorW.PrintLast
section
variable {ops : Array Oper} {a : Act} {o og : Oper} {g : Nat} {t : Tmp} {u : Bool}
end
end Go.Proofs.YtndbdnkpnjibkaaDoorW.PrintLast
