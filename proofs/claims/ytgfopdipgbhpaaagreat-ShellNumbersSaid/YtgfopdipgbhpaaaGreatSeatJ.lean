/- A part of a proof over the abstract machine. No conditions. -/
import Derived.Test.YtgfopdipgbhpaaaGreatSeatA
import Derived.Test.YtgfopdipgbhpaaaGreatAb4
/- ShellNumbers: the closed facts of its row, one by one. No conditions. -/
namespace Go.Proofs.YtgfopdipgbhpaaaGreat
open Go Go.Ab
set_option maxRecDepth 100000
theorem shellNumbers_k1 : Rows.shellNumbersRow.wf (OpenSpec.ofChange Rows.shellNumbersSpec) = true := by kernel_rfl
theorem shellNumbers_k3 : mapsRowed Tryz.prog = true := by kernel_rfl
theorem shellNumbers_k4 : (Tryz.f3.params.all (Tryz.prog.readableRec ·)) = true := by kernel_rfl
theorem shellNumbers_k5 : namedTie Tryz.prog Rows.shellNumbersRow.named Rows.shellNumbersSpec.vars = true := by kernel_rfl
theorem shellNumbers_k6 : (Rows.shellNumbersRow.stops == []) = true := by kernel_rfl
theorem shellNumbers_k7 : (Tryz.prog.stops == []) = true := by kernel_rfl
theorem shellNumbers_k8 : (Rows.shellNumbersRow.knobs == []) = true := by kernel_rfl
theorem shellNumbers_k9 : (Tryz.prog.stopKnobs == []) = true := by kernel_rfl
theorem shellNumbers_k10 : (Rows.shellNumbersRow.inPlace == Tryz.prog.inPlace 3) = true := by kernel_rfl
theorem shellNumbers_k11 : (Rows.shellNumbersRow.unfollowed == Tryz.prog.unfollowed 3) = true := by kernel_rfl
theorem shellNumbers_k12 : (Rows.shellNumbersRow.recurses == Tryz.prog.recurses 3) = true := by kernel_rfl
theorem shellNumbers_k13 : (Rows.shellNumbersRow.named == Tryz.prog.varsNamed 3) = true := by kernel_rfl
theorem shellNumbers_k14 : (Rows.shellNumbersRow.maps == (Tryz.f3.params.toList ++ Rows.shellNumbersSpec.plain.varTypes Tryz.prog).any (Tryz.prog.mapsRec ·)) = true := by kernel_rfl
theorem shellNumbers_k15 : (Rows.shellNumbersRow.ifaces == (Tryz.f3.params.toList ++ Rows.shellNumbersSpec.plain.varTypes Tryz.prog).any (Tryz.prog.ifacesRec ·)) = true := by kernel_rfl
theorem shellNumbers_k16 : (Rows.shellNumbersRow.mapsOut == Tryz.prog.mapsAmong Tryz.f3.resultTypes.toList) = true := by kernel_rfl
theorem shellNumbers_k17 : (Rows.shellNumbersRow.loops == (Tryz.f3.params.toList ++ Rows.shellNumbersSpec.plain.varTypes Tryz.prog).any (Tryz.prog.loopsFrom ·)) = true := by kernel_rfl
theorem shellNumbers_k17b : (Rows.shellNumbersRow.wideKeys == (Tryz.f3.params.toList ++ Rows.shellNumbersSpec.plain.varTypes Tryz.prog ++ Tryz.f3.resultTypes.toList).any (Tryz.prog.wideKeysFrom ·)) = true := by kernel_rfl
theorem shellNumbers_k18 : Rows.shellNumbersSpec.vars.all (Tryz.prog.varReadable ·) = true := by kernel_rfl
theorem shellNumbers_k19 : Tryz.f3.resultTypes.all (fun t => Tryz.prog.readableRec t && decide (t < Tryz.prog.types.size)) = true := by kernel_rfl
theorem shellNumbers_k20 : (Rows.shellNumbersRow.ifacesOut == Tryz.f3.resultTypes.toList.any (Tryz.prog.ifacesRec ·)) = true := by kernel_rfl
theorem shellNumbers_k21 : (Rows.shellNumbersRow.loopsOut == Tryz.f3.resultTypes.toList.any (Tryz.prog.loopsFrom ·)) = true := by kernel_rfl
theorem shellNumbers_k22 : (Rows.shellNumbersRow.plainKeys == Tryz.prog.plainKeys) = true := by kernel_rfl
theorem shellNumbers_k23 : Rows.shellNumbersRow.shortTexts.isNone = true := by kernel_rfl
theorem shellNumbers_k23b : Tryz.prog.stopsHeard = true := by kernel_rfl
theorem shellNumbers_k24 : Tryz.prog.mayEnter = true := by kernel_rfl
theorem shellNumbers_k24b : (Rows.shellNumbersRow.lifted == Tryz.prog.liftsFinal) = true := by kernel_rfl
theorem shellNumbers_k24c : (Tryz.prog.make == some Rows.shellNumbersRow.make) = true := by kernel_rfl
theorem shellNumbers_k25 : (Rows.shellNumbersRow.kinds == (if Rows.shellNumbersRow.domain.isEmpty then [] else Tryz.f3.params.toList.map fun t => match Tryz.prog.underlying t with | some (.int k) => some k | _ => none)) = true := by kernel_rfl
theorem shellNumbers_k26 : (Rows.shellNumbersRow.pinned == Rows.shellNumbersRow.pinnedBy) = true := by kernel_rfl
theorem shellNumbers_k27 : (Rows.shellNumbersRow.veiled == (Tryz.f3.params.toList ++ Rows.shellNumbersSpec.plain.varTypes Tryz.prog ++ Tryz.f3.resultTypes.toList).any (Tryz.prog.veiledRec ·)) = true := by kernel_rfl
theorem shellNumbers_k28 : Rows.shellNumbersRow.veiledFits Tryz.prog Tryz.f3.params.toList (Tryz.f3.params.toList ++ Rows.shellNumbersSpec.plain.varTypes Tryz.prog ++ Tryz.f3.resultTypes.toList) = true := by kernel_rfl
theorem shellNumbers_facts : joinedFacts Tryz.prog 3 Tryz.f3 Rows.shellNumbersSpec Rows.shellNumbersRow = true :=
  joined_of shellNumbers_k1 Tryz.laidOut shellNumbers_k3 shellNumbers_k4 shellNumbers_k5 shellNumbers_k6 shellNumbers_k7 shellNumbers_k8 shellNumbers_k9 shellNumbers_k10 shellNumbers_k11 shellNumbers_k12 shellNumbers_k13 shellNumbers_k14 shellNumbers_k15 shellNumbers_k16 shellNumbers_k17 shellNumbers_k17b shellNumbers_k18 shellNumbers_k19 shellNumbers_k20 shellNumbers_k21 shellNumbers_k22 shellNumbers_k23 shellNumbers_k23b shellNumbers_k24 shellNumbers_k24b shellNumbers_k24c shellNumbers_k25 shellNumbers_k26 shellNumbers_k27 shellNumbers_k28
end Go.Proofs.YtgfopdipgbhpaaaGreat
