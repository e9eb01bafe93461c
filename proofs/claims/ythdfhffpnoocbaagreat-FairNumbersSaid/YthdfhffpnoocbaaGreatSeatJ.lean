/- A part of a proof over the abstract machine. No conditions. -/
import Derived.Test.YthdfhffpnoocbaaGreatSeatA
import Derived.Test.YthdfhffpnoocbaaGreatAb4
/- FairNumbers: the closed facts of its row, one by one. No conditions. -/
namespace Go.Proofs.YthdfhffpnoocbaaGreat
open Go Go.Ab
set_option maxRecDepth 100000
theorem fairNumbers_k1 : Rows.fairNumbersRow.wf (OpenSpec.ofChange Rows.fairNumbersSpec) = true := by kernel_rfl
theorem fairNumbers_k3 : mapsRowed Tryz.prog = true := by kernel_rfl
theorem fairNumbers_k4 : (Tryz.f3.params.all (Tryz.prog.readableRec ·)) = true := by kernel_rfl
theorem fairNumbers_k5 : namedTie Tryz.prog Rows.fairNumbersRow.named Rows.fairNumbersSpec.vars = true := by kernel_rfl
theorem fairNumbers_k6 : (Rows.fairNumbersRow.stops == []) = true := by kernel_rfl
theorem fairNumbers_k7 : (Tryz.prog.stops == []) = true := by kernel_rfl
theorem fairNumbers_k8 : (Rows.fairNumbersRow.knobs == []) = true := by kernel_rfl
theorem fairNumbers_k9 : (Tryz.prog.stopKnobs == []) = true := by kernel_rfl
theorem fairNumbers_k10 : (Rows.fairNumbersRow.inPlace == Tryz.prog.inPlace 3) = true := by kernel_rfl
theorem fairNumbers_k11 : (Rows.fairNumbersRow.unfollowed == Tryz.prog.unfollowed 3) = true := by kernel_rfl
theorem fairNumbers_k12 : (Rows.fairNumbersRow.recurses == Tryz.prog.recurses 3) = true := by kernel_rfl
theorem fairNumbers_k13 : (Rows.fairNumbersRow.named == Tryz.prog.varsNamed 3) = true := by kernel_rfl
theorem fairNumbers_k14 : (Rows.fairNumbersRow.maps == (Tryz.f3.params.toList ++ Rows.fairNumbersSpec.plain.varTypes Tryz.prog).any (Tryz.prog.mapsRec ·)) = true := by kernel_rfl
theorem fairNumbers_k15 : (Rows.fairNumbersRow.ifaces == (Tryz.f3.params.toList ++ Rows.fairNumbersSpec.plain.varTypes Tryz.prog).any (Tryz.prog.ifacesRec ·)) = true := by kernel_rfl
theorem fairNumbers_k16 : (Rows.fairNumbersRow.mapsOut == Tryz.prog.mapsAmong Tryz.f3.resultTypes.toList) = true := by kernel_rfl
theorem fairNumbers_k17 : (Rows.fairNumbersRow.loops == (Tryz.f3.params.toList ++ Rows.fairNumbersSpec.plain.varTypes Tryz.prog).any (Tryz.prog.loopsFrom ·)) = true := by kernel_rfl
theorem fairNumbers_k17b : (Rows.fairNumbersRow.wideKeys == (Tryz.f3.params.toList ++ Rows.fairNumbersSpec.plain.varTypes Tryz.prog ++ Tryz.f3.resultTypes.toList).any (Tryz.prog.wideKeysFrom ·)) = true := by kernel_rfl
theorem fairNumbers_k18 : Rows.fairNumbersSpec.vars.all (Tryz.prog.varReadable ·) = true := by kernel_rfl
theorem fairNumbers_k19 : Tryz.f3.resultTypes.all (fun t => Tryz.prog.readableRec t && decide (t < Tryz.prog.types.size)) = true := by kernel_rfl
theorem fairNumbers_k20 : (Rows.fairNumbersRow.ifacesOut == Tryz.f3.resultTypes.toList.any (Tryz.prog.ifacesRec ·)) = true := by kernel_rfl
theorem fairNumbers_k21 : (Rows.fairNumbersRow.loopsOut == Tryz.f3.resultTypes.toList.any (Tryz.prog.loopsFrom ·)) = true := by kernel_rfl
theorem fairNumbers_k22 : (Rows.fairNumbersRow.plainKeys == Tryz.prog.plainKeys) = true := by kernel_rfl
theorem fairNumbers_k23 : Rows.fairNumbersRow.shortTexts.isNone = true := by kernel_rfl
theorem fairNumbers_k23b : Tryz.prog.stopsHeard = true := by kernel_rfl
theorem fairNumbers_k24 : Tryz.prog.mayEnter = true := by kernel_rfl
theorem fairNumbers_k24b : (Rows.fairNumbersRow.lifted == Tryz.prog.liftsFinal) = true := by kernel_rfl
theorem fairNumbers_k24c : (Tryz.prog.make == some Rows.fairNumbersRow.make) = true := by kernel_rfl
theorem fairNumbers_k25 : (Rows.fairNumbersRow.kinds == (if Rows.fairNumbersRow.domain.isEmpty then [] else Tryz.f3.params.toList.map fun t => match Tryz.prog.underlying t with | some (.int k) => some k | _ => none)) = true := by kernel_rfl
theorem fairNumbers_k26 : (Rows.fairNumbersRow.pinned == Rows.fairNumbersRow.pinnedBy) = true := by kernel_rfl
theorem fairNumbers_k27 : (Rows.fairNumbersRow.veiled == (Tryz.f3.params.toList ++ Rows.fairNumbersSpec.plain.varTypes Tryz.prog ++ Tryz.f3.resultTypes.toList).any (Tryz.prog.veiledRec ·)) = true := by kernel_rfl
theorem fairNumbers_k28 : Rows.fairNumbersRow.veiledFits Tryz.prog Tryz.f3.params.toList (Tryz.f3.params.toList ++ Rows.fairNumbersSpec.plain.varTypes Tryz.prog ++ Tryz.f3.resultTypes.toList) = true := by kernel_rfl
theorem fairNumbers_facts : joinedFacts Tryz.prog 3 Tryz.f3 Rows.fairNumbersSpec Rows.fairNumbersRow = true :=
  joined_of fairNumbers_k1 Tryz.laidOut fairNumbers_k3 fairNumbers_k4 fairNumbers_k5 fairNumbers_k6 fairNumbers_k7 fairNumbers_k8 fairNumbers_k9 fairNumbers_k10 fairNumbers_k11 fairNumbers_k12 fairNumbers_k13 fairNumbers_k14 fairNumbers_k15 fairNumbers_k16 fairNumbers_k17 fairNumbers_k17b fairNumbers_k18 fairNumbers_k19 fairNumbers_k20 fairNumbers_k21 fairNumbers_k22 fairNumbers_k23 fairNumbers_k23b fairNumbers_k24 fairNumbers_k24b fairNumbers_k24c fairNumbers_k25 fairNumbers_k26 fairNumbers_k27 fairNumbers_k28
end Go.Proofs.YthdfhffpnoocbaaGreat
