/- Part 4 of 9 of the proof of FnLatEdges: functions on lists and numbers, contracts of Go functions, plain lemmas. -/
import Derived.Test.YtjhfjnknajhanaaCLatEdges2
import Derived.Test.YtjhfjnknajhanaaCLatEdges3
/- The closed facts of the row of FnLatEdges. -/
namespace Go.Proofs.Ytjhfjnknajhanaa.fnLatEdges
open Facts
theorem c1 : (Rows.fnLatEdgesRow.wf (OpenSpec.ofChange Rows.fnLatEdgesSpec)) = true := by kernel_rfl
theorem c4 : (Try.f4.params.all (Try.prog.readableRec ·)) = true := by kernel_rfl
theorem c5 : (namedTie Try.prog Rows.fnLatEdgesRow.named Rows.fnLatEdgesSpec.vars) = true := by kernel_rfl
theorem c6 : ((Rows.fnLatEdgesRow.stops == [])) = true := by kernel_rfl
theorem c8 : ((Rows.fnLatEdgesRow.knobs == [])) = true := by kernel_rfl
theorem c10 : ((Rows.fnLatEdgesRow.inPlace == Program.inPlace Try.prog 4)) = true := by kernel_rfl
theorem c11 : ((Rows.fnLatEdgesRow.unfollowed == Program.unfollowed Try.prog 4)) = true := by kernel_rfl
theorem c12 : ((Rows.fnLatEdgesRow.recurses == Program.recurses Try.prog 4)) = true := by kernel_rfl
theorem c13 : ((Rows.fnLatEdgesRow.named == Program.varsNamed Try.prog 4)) = true := by kernel_rfl
theorem c14 : ((Rows.fnLatEdgesRow.maps == (Try.f4.params.toList ++ Rows.fnLatEdgesSpec.plain.varTypes Try.prog).any (Program.mapsRec Try.prog ·))) = true := by kernel_rfl
theorem c15 : ((Rows.fnLatEdgesRow.ifaces == (Try.f4.params.toList ++ Rows.fnLatEdgesSpec.plain.varTypes Try.prog).any (Program.ifacesRec Try.prog ·))) = true := by kernel_rfl
theorem c16 : ((Rows.fnLatEdgesRow.mapsOut == Program.mapsAmong Try.prog Try.f4.resultTypes.toList)) = true := by kernel_rfl
theorem c17 : ((Rows.fnLatEdgesRow.loops == (Try.f4.params.toList ++ Rows.fnLatEdgesSpec.plain.varTypes Try.prog).any (Program.loopsFrom Try.prog ·))) = true := by kernel_rfl
theorem c18 : ((Rows.fnLatEdgesRow.wideKeys == (Try.f4.params.toList ++ Rows.fnLatEdgesSpec.plain.varTypes Try.prog ++ Try.f4.resultTypes.toList).any (Program.wideKeysFrom Try.prog ·))) = true := by kernel_rfl
theorem c19 : (Rows.fnLatEdgesSpec.vars.all (Program.varReadable Try.prog ·)) = true := by kernel_rfl
theorem c20 : (Try.f4.resultTypes.all (fun t => Program.readableRec Try.prog t && decide (t < Try.prog.types.size))) = true := by kernel_rfl
theorem c21 : ((Rows.fnLatEdgesRow.ifacesOut == Try.f4.resultTypes.toList.any (Program.ifacesRec Try.prog ·))) = true := by kernel_rfl
theorem c22 : ((Rows.fnLatEdgesRow.loopsOut == Try.f4.resultTypes.toList.any (Program.loopsFrom Try.prog ·))) = true := by kernel_rfl
theorem c23 : ((Rows.fnLatEdgesRow.plainKeys == Program.plainKeys Try.prog)) = true := by kernel_rfl
theorem c24 : (Rows.fnLatEdgesRow.shortTexts.isNone) = true := by kernel_rfl
theorem c27 : ((Rows.fnLatEdgesRow.lifted == Program.liftsFinal Try.prog)) = true := Facts.s27
theorem c28 : ((Program.make Try.prog == some Rows.fnLatEdgesRow.make)) = true := Facts.s28
theorem c29 : ((Rows.fnLatEdgesRow.kinds == (if Rows.fnLatEdgesRow.domain.isEmpty then [] else Try.f4.params.toList.map fun t => match Program.underlying Try.prog t with | some (.int k) => some k | _ => none))) = true := by kernel_rfl
theorem c30 : ((Rows.fnLatEdgesRow.pinned == Rows.fnLatEdgesRow.pinnedBy)) = true := by kernel_rfl
theorem c31 : ((Rows.fnLatEdgesRow.veiled == (Try.f4.params.toList ++ Rows.fnLatEdgesSpec.plain.varTypes Try.prog ++ Try.f4.resultTypes.toList).any (Program.veiledRec Try.prog ·))) = true := by kernel_rfl
theorem c32 : (Rows.fnLatEdgesRow.veiledFits Try.prog Try.f4.params.toList (Try.f4.params.toList ++ Rows.fnLatEdgesSpec.plain.varTypes Try.prog ++ Try.f4.resultTypes.toList)) = true := by kernel_rfl
set_option maxRecDepth 100000 in
theorem joined : joinedFacts Try.prog 4 Try.f4 Rows.fnLatEdgesSpec Rows.fnLatEdgesRow = true := by
  unfold joinedFacts
  exact (and_t (and_t (and_t (and_t (and_t (and_t (and_t (and_t (and_t (and_t (and_t (and_t (and_t (and_t (and_t (and_t (and_t (and_t (and_t (and_t (and_t (and_t (and_t (and_t (and_t (and_t (and_t (and_t (and_t (and_t (and_t c1 Facts.s2) Facts.s3) c4) c5) c6) Facts.s7) c8) Facts.s9) c10) c11) c12) c13) c14) c15) c16) c17) c18) c19) c20) c21) c22) c23) c24) Facts.s25) Facts.s26) c27) c28) c29) c30) c31) c32)
end Go.Proofs.Ytjhfjnknajhanaa.fnLatEdges
