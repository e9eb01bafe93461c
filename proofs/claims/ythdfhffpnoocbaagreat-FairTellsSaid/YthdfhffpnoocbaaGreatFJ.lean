/- A part of a proof over the abstract machine. No conditions. -/
import Derived.Test.YthdfhffpnoocbaaGreatSeatA
import Derived.Test.YthdfhffpnoocbaaGreatAb4
namespace Go.Proofs.YthdfhffpnoocbaaGreat
open Go Go.Ab
set_option maxRecDepth 100000
theorem fairTells_k1 : Rows.fairTellsRow.wf (OpenSpec.ofChange Rows.fairTellsSpec) = true := by kernel_rfl
theorem fairTells_k3 : mapsRowed Tryz.prog = true := by kernel_rfl
theorem fairTells_k4 : (Tryz.f4.params.all (Tryz.prog.readableRec ·)) = true := by kernel_rfl
theorem fairTells_k5 : namedTie Tryz.prog Rows.fairTellsRow.named Rows.fairTellsSpec.vars = true := by kernel_rfl
theorem fairTells_k6 : (Rows.fairTellsRow.stops == []) = true := by kernel_rfl
theorem fairTells_k7 : (Tryz.prog.stops == []) = true := by kernel_rfl
theorem fairTells_k8 : (Rows.fairTellsRow.knobs == []) = true := by kernel_rfl
theorem fairTells_k9 : (Tryz.prog.stopKnobs == []) = true := by kernel_rfl
theorem fairTells_k10 : (Rows.fairTellsRow.inPlace == Tryz.prog.inPlace 4) = true := by kernel_rfl
theorem fairTells_k11 : (Rows.fairTellsRow.unfollowed == Tryz.prog.unfollowed 4) = true := by kernel_rfl
theorem fairTells_k12 : (Rows.fairTellsRow.recurses == Tryz.prog.recurses 4) = true := by kernel_rfl
theorem fairTells_k13 : (Rows.fairTellsRow.named == Tryz.prog.varsNamed 4) = true := by kernel_rfl
theorem fairTells_k14 : (Rows.fairTellsRow.maps == (Tryz.f4.params.toList ++ Rows.fairTellsSpec.plain.varTypes Tryz.prog).any (Tryz.prog.mapsRec ·)) = true := by kernel_rfl
theorem fairTells_k15 : (Rows.fairTellsRow.ifaces == (Tryz.f4.params.toList ++ Rows.fairTellsSpec.plain.varTypes Tryz.prog).any (Tryz.prog.ifacesRec ·)) = true := by kernel_rfl
theorem fairTells_k16 : (Rows.fairTellsRow.mapsOut == Tryz.prog.mapsAmong Tryz.f4.resultTypes.toList) = true := by kernel_rfl
theorem fairTells_k17 : (Rows.fairTellsRow.loops == (Tryz.f4.params.toList ++ Rows.fairTellsSpec.plain.varTypes Tryz.prog).any (Tryz.prog.loopsFrom ·)) = true := by kernel_rfl
theorem fairTells_k17b : (Rows.fairTellsRow.wideKeys == (Tryz.f4.params.toList ++ Rows.fairTellsSpec.plain.varTypes Tryz.prog ++ Tryz.f4.resultTypes.toList).any (Tryz.prog.wideKeysFrom ·)) = true := by kernel_rfl
theorem fairTells_k18 : Rows.fairTellsSpec.vars.all (Tryz.prog.varReadable ·) = true := by kernel_rfl
theorem fairTells_k19 : Tryz.f4.resultTypes.all (fun t => Tryz.prog.readableRec t && decide (t < Tryz.prog.types.size)) = true := by kernel_rfl
theorem fairTells_k20 : (Rows.fairTellsRow.ifacesOut == Tryz.f4.resultTypes.toList.any (Tryz.prog.ifacesRec ·)) = true := by kernel_rfl
theorem fairTells_k21 : (Rows.fairTellsRow.loopsOut == Tryz.f4.resultTypes.toList.any (Tryz.prog.loopsFrom ·)) = true := by kernel_rfl
theorem fairTells_k22 : (Rows.fairTellsRow.plainKeys == Tryz.prog.plainKeys) = true := by kernel_rfl
theorem fairTells_k23 : Rows.fairTellsRow.shortTexts.isNone = true := by kernel_rfl
theorem fairTells_k23b : Tryz.prog.stopsHeard = true := by kernel_rfl
theorem fairTells_k24 : Tryz.prog.mayEnter = true := by kernel_rfl
theorem fairTells_k24b : (Rows.fairTellsRow.lifted == Tryz.prog.liftsFinal) = true := by kernel_rfl
theorem fairTells_k24c : (Tryz.prog.make == some Rows.fairTellsRow.make) = true := by kernel_rfl
theorem fairTells_k25 : (Rows.fairTellsRow.kinds == (if Rows.fairTellsRow.domain.isEmpty then [] else Tryz.f4.params.toList.map fun t => match Tryz.prog.underlying t with | some (.int k) => some k | _ => none)) = true := by kernel_rfl
theorem fairTells_k26 : (Rows.fairTellsRow.pinned == Rows.fairTellsRow.pinnedBy) = true := by kernel_rfl
theorem fairTells_k27 : (Rows.fairTellsRow.veiled == (Tryz.f4.params.toList ++ Rows.fairTellsSpec.plain.varTypes Tryz.prog ++ Tryz.f4.resultTypes.toList).any (Tryz.prog.veiledRec ·)) = true := by kernel_rfl
theorem fairTells_k28 : Rows.fairTellsRow.veiledFits Tryz.prog Tryz.f4.params.toList (Tryz.f4.params.toList ++ Rows.fairTellsSpec.plain.varTypes Tryz.prog ++ Tryz.f4.resultTypes.toList) = true := by kernel_rfl
theorem fairTells_facts : joinedFacts Tryz.prog 4 Tryz.f4 Rows.fairTellsSpec Rows.fairTellsRow = true :=
  joined_of fairTells_k1 Tryz.laidOut fairTells_k3 fairTells_k4 fairTells_k5 fairTells_k6 fairTells_k7 fairTells_k8 fairTells_k9 fairTells_k10 fairTells_k11 fairTells_k12 fairTells_k13 fairTells_k14 fairTells_k15 fairTells_k16 fairTells_k17 fairTells_k17b fairTells_k18 fairTells_k19 fairTells_k20 fairTells_k21 fairTells_k22 fairTells_k23 fairTells_k23b fairTells_k24 fairTells_k24b fairTells_k24c fairTells_k25 fairTells_k26 fairTells_k27 fairTells_k28
end Go.Proofs.YthdfhffpnoocbaaGreat
