/- A part of a proof over the abstract machine. No conditions. -/
import Derived.Test.YtdpefokmdfeabaaGreatSeatA
import Derived.Test.YtdpefokmdfeabaaGreatAb4
/- MoverNumbers: the closed facts of its row, one by one. No conditions. -/
namespace Go.Proofs.YtdpefokmdfeabaaGreat
open Go Go.Ab
set_option maxRecDepth 100000
theorem moverNumbers_k1 : Rows.moverNumbersRow.wf (OpenSpec.ofChange Rows.moverNumbersSpec) = true := by kernel_rfl
theorem moverNumbers_k3 : mapsRowed Tryz.prog = true := by kernel_rfl
theorem moverNumbers_k4 : (Tryz.f3.params.all (Tryz.prog.readableRec ·)) = true := by kernel_rfl
theorem moverNumbers_k5 : namedTie Tryz.prog Rows.moverNumbersRow.named Rows.moverNumbersSpec.vars = true := by kernel_rfl
theorem moverNumbers_k6 : (Rows.moverNumbersRow.stops == []) = true := by kernel_rfl
theorem moverNumbers_k7 : (Tryz.prog.stops == []) = true := by kernel_rfl
theorem moverNumbers_k8 : (Rows.moverNumbersRow.knobs == []) = true := by kernel_rfl
theorem moverNumbers_k9 : (Tryz.prog.stopKnobs == []) = true := by kernel_rfl
theorem moverNumbers_k10 : (Rows.moverNumbersRow.inPlace == Tryz.prog.inPlace 3) = true := by kernel_rfl
theorem moverNumbers_k11 : (Rows.moverNumbersRow.unfollowed == Tryz.prog.unfollowed 3) = true := by kernel_rfl
theorem moverNumbers_k12 : (Rows.moverNumbersRow.recurses == Tryz.prog.recurses 3) = true := by kernel_rfl
theorem moverNumbers_k13 : (Rows.moverNumbersRow.named == Tryz.prog.varsNamed 3) = true := by kernel_rfl
theorem moverNumbers_k14 : (Rows.moverNumbersRow.maps == (Tryz.f3.params.toList ++ Rows.moverNumbersSpec.plain.varTypes Tryz.prog).any (Tryz.prog.mapsRec ·)) = true := by kernel_rfl
theorem moverNumbers_k15 : (Rows.moverNumbersRow.ifaces == (Tryz.f3.params.toList ++ Rows.moverNumbersSpec.plain.varTypes Tryz.prog).any (Tryz.prog.ifacesRec ·)) = true := by kernel_rfl
theorem moverNumbers_k16 : (Rows.moverNumbersRow.mapsOut == Tryz.prog.mapsAmong Tryz.f3.resultTypes.toList) = true := by kernel_rfl
theorem moverNumbers_k17 : (Rows.moverNumbersRow.loops == (Tryz.f3.params.toList ++ Rows.moverNumbersSpec.plain.varTypes Tryz.prog).any (Tryz.prog.loopsFrom ·)) = true := by kernel_rfl
theorem moverNumbers_k17b : (Rows.moverNumbersRow.wideKeys == (Tryz.f3.params.toList ++ Rows.moverNumbersSpec.plain.varTypes Tryz.prog ++ Tryz.f3.resultTypes.toList).any (Tryz.prog.wideKeysFrom ·)) = true := by kernel_rfl
theorem moverNumbers_k18 : Rows.moverNumbersSpec.vars.all (Tryz.prog.varReadable ·) = true := by kernel_rfl
theorem moverNumbers_k19 : Tryz.f3.resultTypes.all (fun t => Tryz.prog.readableRec t && decide (t < Tryz.prog.types.size)) = true := by kernel_rfl
theorem moverNumbers_k20 : (Rows.moverNumbersRow.ifacesOut == Tryz.f3.resultTypes.toList.any (Tryz.prog.ifacesRec ·)) = true := by kernel_rfl
theorem moverNumbers_k21 : (Rows.moverNumbersRow.loopsOut == Tryz.f3.resultTypes.toList.any (Tryz.prog.loopsFrom ·)) = true := by kernel_rfl
theorem moverNumbers_k22 : (Rows.moverNumbersRow.plainKeys == Tryz.prog.plainKeys) = true := by kernel_rfl
theorem moverNumbers_k23 : Rows.moverNumbersRow.shortTexts.isNone = true := by kernel_rfl
theorem moverNumbers_k23b : Tryz.prog.stopsHeard = true := by kernel_rfl
theorem moverNumbers_k24 : Tryz.prog.mayEnter = true := by kernel_rfl
theorem moverNumbers_k24b : (Rows.moverNumbersRow.lifted == Tryz.prog.liftsFinal) = true := by kernel_rfl
theorem moverNumbers_k24c : (Tryz.prog.make == some Rows.moverNumbersRow.make) = true := by kernel_rfl
theorem moverNumbers_k25 : (Rows.moverNumbersRow.kinds == (if Rows.moverNumbersRow.domain.isEmpty then [] else Tryz.f3.params.toList.map fun t => match Tryz.prog.underlying t with | some (.int k) => some k | _ => none)) = true := by kernel_rfl
theorem moverNumbers_k26 : (Rows.moverNumbersRow.pinned == Rows.moverNumbersRow.pinnedBy) = true := by kernel_rfl
theorem moverNumbers_k27 : (Rows.moverNumbersRow.veiled == (Tryz.f3.params.toList ++ Rows.moverNumbersSpec.plain.varTypes Tryz.prog ++ Tryz.f3.resultTypes.toList).any (Tryz.prog.veiledRec ·)) = true := by kernel_rfl
theorem moverNumbers_k28 : Rows.moverNumbersRow.veiledFits Tryz.prog Tryz.f3.params.toList (Tryz.f3.params.toList ++ Rows.moverNumbersSpec.plain.varTypes Tryz.prog ++ Tryz.f3.resultTypes.toList) = true := by kernel_rfl
theorem moverNumbers_facts : joinedFacts Tryz.prog 3 Tryz.f3 Rows.moverNumbersSpec Rows.moverNumbersRow = true :=
  joined_of moverNumbers_k1 Tryz.laidOut moverNumbers_k3 moverNumbers_k4 moverNumbers_k5 moverNumbers_k6 moverNumbers_k7 moverNumbers_k8 moverNumbers_k9 moverNumbers_k10 moverNumbers_k11 moverNumbers_k12 moverNumbers_k13 moverNumbers_k14 moverNumbers_k15 moverNumbers_k16 moverNumbers_k17 moverNumbers_k17b moverNumbers_k18 moverNumbers_k19 moverNumbers_k20 moverNumbers_k21 moverNumbers_k22 moverNumbers_k23 moverNumbers_k23b moverNumbers_k24 moverNumbers_k24b moverNumbers_k24c moverNumbers_k25 moverNumbers_k26 moverNumbers_k27 moverNumbers_k28
end Go.Proofs.YtdpefokmdfeabaaGreat
