/- The print's words for this seat, those that are used. -/
import Derived.Test.YtndbdnkpnjibkaaDoorWWords
namespace Go.Proofs.YtndbdnkpnjibkaaDoorW.PrintWords
open Go.RowKit
section
variable {P : Program} {ops : Array Oper} {rest : List Oper} {o : Oper} {a : Act} {Q : Exit → Act → World → Prop} {W : World}
end
end Go.Proofs.YtndbdnkpnjibkaaDoorW.PrintWords
