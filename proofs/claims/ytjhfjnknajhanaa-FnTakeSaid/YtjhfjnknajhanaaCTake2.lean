/- Part 2 of 10 of the proof of FnTake: functions on lists and numbers, contracts of Go functions, plain lemmas. -/
import Derived.JoinedOf
import Derived.Test.YtjhfjnknajhanaaRows
/- Closed facts of the translation that every row asks. -/
namespace Go.Proofs.Ytjhfjnknajhanaa.Facts
theorem and_t {a b : Bool} (h : a = true) (k : b = true) : (a && b) = true := by rw [h, k]; rfl
theorem s2 : (laidOutB Try.prog) = true := by kernel_rfl
theorem s3 : (mapsRowed Try.prog) = true := by kernel_rfl
theorem s7 : ((Try.prog.stops == [])) = true := by kernel_rfl
theorem s9 : ((Try.prog.stopKnobs == [])) = true := by kernel_rfl
theorem s25 : (Try.prog.stopsHeard) = true := by kernel_rfl
theorem s26 : (Try.prog.mayEnter) = true := by kernel_rfl
end Go.Proofs.Ytjhfjnknajhanaa.Facts
