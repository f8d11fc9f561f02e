/- Part 3 of 10 of the proof of FnTake: functions on lists and numbers, contracts of Go functions, plain lemmas. -/
import Derived.JoinedOf
import Derived.Test.YtjhfjnknajhanaaRows
/- Closed facts of the translation that every row asks. -/
namespace Go.Proofs.Ytjhfjnknajhanaa.Facts
theorem s27 : ((false == Program.liftsFinal Try.prog)) = true := by kernel_rfl
theorem s28 : ((Program.make Try.prog == some .cut)) = true := by kernel_rfl
end Go.Proofs.Ytjhfjnknajhanaa.Facts
