/- Part 4 of 10 of the proof of FnTake: functions on lists and numbers, contracts of Go functions, plain lemmas. -/
import Derived.Test.YtjhfjnknajhanaaCTake2
import Derived.Test.YtjhfjnknajhanaaCTake3
/- The closed facts of the row of FnTake. -/
namespace Go.Proofs.Ytjhfjnknajhanaa.fnTake
open Facts
theorem c1 : (Rows.fnTakeRow.wf (OpenSpec.ofChange Rows.fnTakeSpec)) = true := by kernel_rfl
theorem c4 : (Try.f11.params.all (Try.prog.readableRec ·)) = true := by kernel_rfl
theorem c5 : (namedTie Try.prog Rows.fnTakeRow.named Rows.fnTakeSpec.vars) = true := by kernel_rfl
theorem c6 : ((Rows.fnTakeRow.stops == [])) = true := by kernel_rfl
theorem c8 : ((Rows.fnTakeRow.knobs == [])) = true := by kernel_rfl
theorem c10 : ((Rows.fnTakeRow.inPlace == Program.inPlace Try.prog 11)) = true := by kernel_rfl
theorem c11 : ((Rows.fnTakeRow.unfollowed == Program.unfollowed Try.prog 11)) = true := by kernel_rfl
theorem c12 : ((Rows.fnTakeRow.recurses == Program.recurses Try.prog 11)) = true := by kernel_rfl
theorem c13 : ((Rows.fnTakeRow.named == Program.varsNamed Try.prog 11)) = true := by kernel_rfl
theorem c14 : ((Rows.fnTakeRow.maps == (Try.f11.params.toList ++ Rows.fnTakeSpec.plain.varTypes Try.prog).any (Program.mapsRec Try.prog ·))) = true := by kernel_rfl
theorem c15 : ((Rows.fnTakeRow.ifaces == (Try.f11.params.toList ++ Rows.fnTakeSpec.plain.varTypes Try.prog).any (Program.ifacesRec Try.prog ·))) = true := by kernel_rfl
theorem c16 : ((Rows.fnTakeRow.mapsOut == Program.mapsAmong Try.prog Try.f11.resultTypes.toList)) = true := by kernel_rfl
theorem c17 : ((Rows.fnTakeRow.loops == (Try.f11.params.toList ++ Rows.fnTakeSpec.plain.varTypes Try.prog).any (Program.loopsFrom Try.prog ·))) = true := by kernel_rfl
theorem c18 : ((Rows.fnTakeRow.wideKeys == (Try.f11.params.toList ++ Rows.fnTakeSpec.plain.varTypes Try.prog ++ Try.f11.resultTypes.toList).any (Program.wideKeysFrom Try.prog ·))) = true := by kernel_rfl
theorem c19 : (Rows.fnTakeSpec.vars.all (Program.varReadable Try.prog ·)) = true := by kernel_rfl
theorem c20 : (Try.f11.resultTypes.all (fun t => Program.readableRec Try.prog t && decide (t < Try.prog.types.size))) = true := by kernel_rfl
theorem c21 : ((Rows.fnTakeRow.ifacesOut == Try.f11.resultTypes.toList.any (Program.ifacesRec Try.prog ·))) = true := by kernel_rfl
theorem c22 : ((Rows.fnTakeRow.loopsOut == Try.f11.resultTypes.toList.any (Program.loopsFrom Try.prog ·))) = true := by kernel_rfl
theorem c23 : ((Rows.fnTakeRow.plainKeys == Program.plainKeys Try.prog)) = true := by kernel_rfl
theorem c24 : (Rows.fnTakeRow.shortTexts.isNone) = true := by kernel_rfl
theorem c27 : ((Rows.fnTakeRow.lifted == Program.liftsFinal Try.prog)) = true := Facts.s27
theorem c28 : ((Program.make Try.prog == some Rows.fnTakeRow.make)) = true := Facts.s28
theorem c29 : ((Rows.fnTakeRow.kinds == (if Rows.fnTakeRow.domain.isEmpty then [] else Try.f11.params.toList.map fun t => match Program.underlying Try.prog t with | some (.int k) => some k | _ => none))) = true := by kernel_rfl
theorem c30 : ((Rows.fnTakeRow.pinned == Rows.fnTakeRow.pinnedBy)) = true := by kernel_rfl
theorem c31 : ((Rows.fnTakeRow.veiled == (Try.f11.params.toList ++ Rows.fnTakeSpec.plain.varTypes Try.prog ++ Try.f11.resultTypes.toList).any (Program.veiledRec Try.prog ·))) = true := by kernel_rfl
theorem c32 : (Rows.fnTakeRow.veiledFits Try.prog Try.f11.params.toList (Try.f11.params.toList ++ Rows.fnTakeSpec.plain.varTypes Try.prog ++ Try.f11.resultTypes.toList)) = true := by kernel_rfl
set_option maxRecDepth 100000 in
theorem joined : joinedFacts Try.prog 11 Try.f11 Rows.fnTakeSpec Rows.fnTakeRow = true := by
  unfold joinedFacts
  exact (and_t (and_t (and_t (and_t (and_t (and_t (and_t (and_t (and_t (and_t (and_t (and_t (and_t (and_t (and_t (and_t (and_t (and_t (and_t (and_t (and_t (and_t (and_t (and_t (and_t (and_t (and_t (and_t (and_t (and_t (and_t c1 Facts.s2) Facts.s3) c4) c5) c6) Facts.s7) c8) Facts.s9) c10) c11) c12) c13) c14) c15) c16) c17) c18) c19) c20) c21) c22) c23) c24) Facts.s25) Facts.s26) c27) c28) c29) c30) c31) c32)
end Go.Proofs.Ytjhfjnknajhanaa.fnTake
