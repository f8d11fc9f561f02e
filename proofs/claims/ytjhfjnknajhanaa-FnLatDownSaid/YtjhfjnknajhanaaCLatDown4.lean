/- Part 4 of 9 of the proof of FnLatDown: functions on lists and numbers, contracts of Go functions, plain lemmas. -/
import Derived.Test.YtjhfjnknajhanaaCLatDown2
import Derived.Test.YtjhfjnknajhanaaCLatDown3
/- The closed facts of the row of FnLatDown. -/
namespace Go.Proofs.Ytjhfjnknajhanaa.fnLatDown
open Facts
theorem c1 : (Rows.fnLatDownRow.wf (OpenSpec.ofChange Rows.fnLatDownSpec)) = true := by kernel_rfl
theorem c4 : (Try.f6.params.all (Try.prog.readableRec ·)) = true := by kernel_rfl
theorem c5 : (namedTie Try.prog Rows.fnLatDownRow.named Rows.fnLatDownSpec.vars) = true := by kernel_rfl
theorem c6 : ((Rows.fnLatDownRow.stops == [])) = true := by kernel_rfl
theorem c8 : ((Rows.fnLatDownRow.knobs == [])) = true := by kernel_rfl
theorem c10 : ((Rows.fnLatDownRow.inPlace == Program.inPlace Try.prog 6)) = true := by kernel_rfl
theorem c11 : ((Rows.fnLatDownRow.unfollowed == Program.unfollowed Try.prog 6)) = true := by kernel_rfl
theorem c12 : ((Rows.fnLatDownRow.recurses == Program.recurses Try.prog 6)) = true := by kernel_rfl
theorem c13 : ((Rows.fnLatDownRow.named == Program.varsNamed Try.prog 6)) = true := by kernel_rfl
theorem c14 : ((Rows.fnLatDownRow.maps == (Try.f6.params.toList ++ Rows.fnLatDownSpec.plain.varTypes Try.prog).any (Program.mapsRec Try.prog ·))) = true := by kernel_rfl
theorem c15 : ((Rows.fnLatDownRow.ifaces == (Try.f6.params.toList ++ Rows.fnLatDownSpec.plain.varTypes Try.prog).any (Program.ifacesRec Try.prog ·))) = true := by kernel_rfl
theorem c16 : ((Rows.fnLatDownRow.mapsOut == Program.mapsAmong Try.prog Try.f6.resultTypes.toList)) = true := by kernel_rfl
theorem c17 : ((Rows.fnLatDownRow.loops == (Try.f6.params.toList ++ Rows.fnLatDownSpec.plain.varTypes Try.prog).any (Program.loopsFrom Try.prog ·))) = true := by kernel_rfl
theorem c18 : ((Rows.fnLatDownRow.wideKeys == (Try.f6.params.toList ++ Rows.fnLatDownSpec.plain.varTypes Try.prog ++ Try.f6.resultTypes.toList).any (Program.wideKeysFrom Try.prog ·))) = true := by kernel_rfl
theorem c19 : (Rows.fnLatDownSpec.vars.all (Program.varReadable Try.prog ·)) = true := by kernel_rfl
theorem c20 : (Try.f6.resultTypes.all (fun t => Program.readableRec Try.prog t && decide (t < Try.prog.types.size))) = true := by kernel_rfl
theorem c21 : ((Rows.fnLatDownRow.ifacesOut == Try.f6.resultTypes.toList.any (Program.ifacesRec Try.prog ·))) = true := by kernel_rfl
theorem c22 : ((Rows.fnLatDownRow.loopsOut == Try.f6.resultTypes.toList.any (Program.loopsFrom Try.prog ·))) = true := by kernel_rfl
theorem c23 : ((Rows.fnLatDownRow.plainKeys == Program.plainKeys Try.prog)) = true := by kernel_rfl
theorem c24 : (Rows.fnLatDownRow.shortTexts.isNone) = true := by kernel_rfl
theorem c27 : ((Rows.fnLatDownRow.lifted == Program.liftsFinal Try.prog)) = true := Facts.s27
theorem c28 : ((Program.make Try.prog == some Rows.fnLatDownRow.make)) = true := Facts.s28
theorem c29 : ((Rows.fnLatDownRow.kinds == (if Rows.fnLatDownRow.domain.isEmpty then [] else Try.f6.params.toList.map fun t => match Program.underlying Try.prog t with | some (.int k) => some k | _ => none))) = true := by kernel_rfl
theorem c30 : ((Rows.fnLatDownRow.pinned == Rows.fnLatDownRow.pinnedBy)) = true := by kernel_rfl
theorem c31 : ((Rows.fnLatDownRow.veiled == (Try.f6.params.toList ++ Rows.fnLatDownSpec.plain.varTypes Try.prog ++ Try.f6.resultTypes.toList).any (Program.veiledRec Try.prog ·))) = true := by kernel_rfl
theorem c32 : (Rows.fnLatDownRow.veiledFits Try.prog Try.f6.params.toList (Try.f6.params.toList ++ Rows.fnLatDownSpec.plain.varTypes Try.prog ++ Try.f6.resultTypes.toList)) = true := by kernel_rfl
set_option maxRecDepth 100000 in
theorem joined : joinedFacts Try.prog 6 Try.f6 Rows.fnLatDownSpec Rows.fnLatDownRow = true := by
  unfold joinedFacts
  exact (and_t (and_t (and_t (and_t (and_t (and_t (and_t (and_t (and_t (and_t (and_t (and_t (and_t (and_t (and_t (and_t (and_t (and_t (and_t (and_t (and_t (and_t (and_t (and_t (and_t (and_t (and_t (and_t (and_t (and_t (and_t c1 Facts.s2) Facts.s3) c4) c5) c6) Facts.s7) c8) Facts.s9) c10) c11) c12) c13) c14) c15) c16) c17) c18) c19) c20) c21) c22) c23) c24) Facts.s25) Facts.s26) c27) c28) c29) c30) c31) c32)
end Go.Proofs.Ytjhfjnknajhanaa.fnLatDown
