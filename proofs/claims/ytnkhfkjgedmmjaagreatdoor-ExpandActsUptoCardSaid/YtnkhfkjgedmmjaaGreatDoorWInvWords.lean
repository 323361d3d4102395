-- Out of the printer's words: those that this claim comes to.
import Derived.Test.YtnkhfkjgedmmjaaGreatDoorWInv
import Derived.Test.YtnkhfkjgedmmjaaGreatDoorWFootNe
namespace Go.Proofs.YtnkhfkjgedmmjaaGreatDoorW.PrintWords
open Go.RowKit
end Go.Proofs.YtnkhfkjgedmmjaaGreatDoorW.PrintWords
namespace Go.Proofs.YtnkhfkjgedmmjaaGreatDoorW.PrintLast
section
variable {ops : Array Oper} {a : Act} {o og : Oper} {g : Nat} {t : Tmp} {u : Bool}
end
end Go.Proofs.YtnkhfkjgedmmjaaGreatDoorW.PrintLast
