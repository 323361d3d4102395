-- Out of the printer's words: those that this claim comes to.
import Derived.Test.YtcjjmflaaaddgaaGreatDoorWWords
/-! ### 55. Reps told from the front, no append: for rows of one-cell elements and of wider ones -/
namespace Go.Proofs.YtcjjmflaaaddgaaGreatDoorW.PrintWords
end Go.Proofs.YtcjjmflaaaddgaaGreatDoorW.PrintWords
