/- The print's words for this seat, those that are used. -/
import Derived.Test.YtndbdnkpnjibkaaDoorWTab
namespace Go.Proofs.YtndbdnkpnjibkaaDoorW.PrintLast
section
variable {P : Program} {ops : Array Oper} {Q : Exit → Act → World → Prop} {md : Region.Mode} {S : World → Prop} {ds : List Nat} {T : Bool × List (List Nat × List Nat)}
end
end Go.Proofs.YtndbdnkpnjibkaaDoorW.PrintLast
