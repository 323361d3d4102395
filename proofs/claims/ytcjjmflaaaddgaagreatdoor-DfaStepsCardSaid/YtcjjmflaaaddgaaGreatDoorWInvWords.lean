-- Out of the printer's words: those that this claim comes to.
import Derived.Test.YtcjjmflaaaddgaaGreatDoorWInv
import Derived.Test.YtcjjmflaaaddgaaGreatDoorWFootNe
namespace Go.Proofs.YtcjjmflaaaddgaaGreatDoorW.PrintWords
open Go.RowKit
end Go.Proofs.YtcjjmflaaaddgaaGreatDoorW.PrintWords
namespace Go.Proofs.YtcjjmflaaaddgaaGreatDoorW.PrintLast
section
variable {ops : Array Oper} {a : Act} {o og : Oper} {g : Nat} {t : Tmp} {u : Bool}
end
end Go.Proofs.YtcjjmflaaaddgaaGreatDoorW.PrintLast
