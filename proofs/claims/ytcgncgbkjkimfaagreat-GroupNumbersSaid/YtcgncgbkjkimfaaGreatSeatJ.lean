/- A part of a proof over the abstract machine. No conditions. -/
import Derived.Test.YtcgncgbkjkimfaaGreatSeatA
import Derived.Test.YtcgncgbkjkimfaaGreatAb4
/- GroupNumbers: the closed facts of its row, one by one. No conditions. -/
namespace Go.Proofs.YtcgncgbkjkimfaaGreat
open Go Go.Ab
set_option maxRecDepth 100000
theorem groupNumbers_k1 : Rows.groupNumbersRow.wf (OpenSpec.ofChange Rows.groupNumbersSpec) = true := by kernel_rfl
theorem groupNumbers_k3 : mapsRowed Tryz.prog = true := by kernel_rfl
theorem groupNumbers_k4 : (Tryz.f3.params.all (Tryz.prog.readableRec ·)) = true := by kernel_rfl
theorem groupNumbers_k5 : namedTie Tryz.prog Rows.groupNumbersRow.named Rows.groupNumbersSpec.vars = true := by kernel_rfl
theorem groupNumbers_k6 : (Rows.groupNumbersRow.stops == []) = true := by kernel_rfl
theorem groupNumbers_k7 : (Tryz.prog.stops == []) = true := by kernel_rfl
theorem groupNumbers_k8 : (Rows.groupNumbersRow.knobs == []) = true := by kernel_rfl
theorem groupNumbers_k9 : (Tryz.prog.stopKnobs == []) = true := by kernel_rfl
theorem groupNumbers_k10 : (Rows.groupNumbersRow.inPlace == Tryz.prog.inPlace 3) = true := by kernel_rfl
theorem groupNumbers_k11 : (Rows.groupNumbersRow.unfollowed == Tryz.prog.unfollowed 3) = true := by kernel_rfl
theorem groupNumbers_k12 : (Rows.groupNumbersRow.recurses == Tryz.prog.recurses 3) = true := by kernel_rfl
theorem groupNumbers_k13 : (Rows.groupNumbersRow.named == Tryz.prog.varsNamed 3) = true := by kernel_rfl
theorem groupNumbers_k14 : (Rows.groupNumbersRow.maps == (Tryz.f3.params.toList ++ Rows.groupNumbersSpec.plain.varTypes Tryz.prog).any (Tryz.prog.mapsRec ·)) = true := by kernel_rfl
theorem groupNumbers_k15 : (Rows.groupNumbersRow.ifaces == (Tryz.f3.params.toList ++ Rows.groupNumbersSpec.plain.varTypes Tryz.prog).any (Tryz.prog.ifacesRec ·)) = true := by kernel_rfl
theorem groupNumbers_k16 : (Rows.groupNumbersRow.mapsOut == Tryz.prog.mapsAmong Tryz.f3.resultTypes.toList) = true := by kernel_rfl
theorem groupNumbers_k17 : (Rows.groupNumbersRow.loops == (Tryz.f3.params.toList ++ Rows.groupNumbersSpec.plain.varTypes Tryz.prog).any (Tryz.prog.loopsFrom ·)) = true := by kernel_rfl
theorem groupNumbers_k17b : (Rows.groupNumbersRow.wideKeys == (Tryz.f3.params.toList ++ Rows.groupNumbersSpec.plain.varTypes Tryz.prog ++ Tryz.f3.resultTypes.toList).any (Tryz.prog.wideKeysFrom ·)) = true := by kernel_rfl
theorem groupNumbers_k18 : Rows.groupNumbersSpec.vars.all (Tryz.prog.varReadable ·) = true := by kernel_rfl
theorem groupNumbers_k19 : Tryz.f3.resultTypes.all (fun t => Tryz.prog.readableRec t && decide (t < Tryz.prog.types.size)) = true := by kernel_rfl
theorem groupNumbers_k20 : (Rows.groupNumbersRow.ifacesOut == Tryz.f3.resultTypes.toList.any (Tryz.prog.ifacesRec ·)) = true := by kernel_rfl
theorem groupNumbers_k21 : (Rows.groupNumbersRow.loopsOut == Tryz.f3.resultTypes.toList.any (Tryz.prog.loopsFrom ·)) = true := by kernel_rfl
theorem groupNumbers_k22 : (Rows.groupNumbersRow.plainKeys == Tryz.prog.plainKeys) = true := by kernel_rfl
theorem groupNumbers_k23 : Rows.groupNumbersRow.shortTexts.isNone = true := by kernel_rfl
theorem groupNumbers_k23b : Tryz.prog.stopsHeard = true := by kernel_rfl
theorem groupNumbers_k24 : Tryz.prog.mayEnter = true := by kernel_rfl
theorem groupNumbers_k24b : (Rows.groupNumbersRow.lifted == Tryz.prog.liftsFinal) = true := by kernel_rfl
theorem groupNumbers_k24c : (Tryz.prog.make == some Rows.groupNumbersRow.make) = true := by kernel_rfl
theorem groupNumbers_k25 : (Rows.groupNumbersRow.kinds == (if Rows.groupNumbersRow.domain.isEmpty then [] else Tryz.f3.params.toList.map fun t => match Tryz.prog.underlying t with | some (.int k) => some k | _ => none)) = true := by kernel_rfl
theorem groupNumbers_k26 : (Rows.groupNumbersRow.pinned == Rows.groupNumbersRow.pinnedBy) = true := by kernel_rfl
theorem groupNumbers_k27 : (Rows.groupNumbersRow.veiled == (Tryz.f3.params.toList ++ Rows.groupNumbersSpec.plain.varTypes Tryz.prog ++ Tryz.f3.resultTypes.toList).any (Tryz.prog.veiledRec ·)) = true := by kernel_rfl
theorem groupNumbers_k28 : Rows.groupNumbersRow.veiledFits Tryz.prog Tryz.f3.params.toList (Tryz.f3.params.toList ++ Rows.groupNumbersSpec.plain.varTypes Tryz.prog ++ Tryz.f3.resultTypes.toList) = true := by kernel_rfl
theorem groupNumbers_facts : joinedFacts Tryz.prog 3 Tryz.f3 Rows.groupNumbersSpec Rows.groupNumbersRow = true :=
  joined_of groupNumbers_k1 Tryz.laidOut groupNumbers_k3 groupNumbers_k4 groupNumbers_k5 groupNumbers_k6 groupNumbers_k7 groupNumbers_k8 groupNumbers_k9 groupNumbers_k10 groupNumbers_k11 groupNumbers_k12 groupNumbers_k13 groupNumbers_k14 groupNumbers_k15 groupNumbers_k16 groupNumbers_k17 groupNumbers_k17b groupNumbers_k18 groupNumbers_k19 groupNumbers_k20 groupNumbers_k21 groupNumbers_k22 groupNumbers_k23 groupNumbers_k23b groupNumbers_k24 groupNumbers_k24b groupNumbers_k24c groupNumbers_k25 groupNumbers_k26 groupNumbers_k27 groupNumbers_k28
end Go.Proofs.YtcgncgbkjkimfaaGreat
