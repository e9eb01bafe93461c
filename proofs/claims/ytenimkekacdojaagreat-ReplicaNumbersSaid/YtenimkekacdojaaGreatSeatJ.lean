/- A part of a proof over the abstract machine. No conditions. -/
import Derived.Test.YtenimkekacdojaaGreatSeatA
import Derived.Test.YtenimkekacdojaaGreatAb4
/- ReplicaNumbers: the closed facts of its row, one by one. No conditions. -/
namespace Go.Proofs.YtenimkekacdojaaGreat
open Go Go.Ab
set_option maxRecDepth 100000
theorem replicaNumbers_k1 : Rows.replicaNumbersRow.wf (OpenSpec.ofChange Rows.replicaNumbersSpec) = true := by kernel_rfl
theorem replicaNumbers_k3 : mapsRowed Tryz.prog = true := by kernel_rfl
theorem replicaNumbers_k4 : (Tryz.f3.params.all (Tryz.prog.readableRec ·)) = true := by kernel_rfl
theorem replicaNumbers_k5 : namedTie Tryz.prog Rows.replicaNumbersRow.named Rows.replicaNumbersSpec.vars = true := by kernel_rfl
theorem replicaNumbers_k6 : (Rows.replicaNumbersRow.stops == []) = true := by kernel_rfl
theorem replicaNumbers_k7 : (Tryz.prog.stops == []) = true := by kernel_rfl
theorem replicaNumbers_k8 : (Rows.replicaNumbersRow.knobs == []) = true := by kernel_rfl
theorem replicaNumbers_k9 : (Tryz.prog.stopKnobs == []) = true := by kernel_rfl
theorem replicaNumbers_k10 : (Rows.replicaNumbersRow.inPlace == Tryz.prog.inPlace 3) = true := by kernel_rfl
theorem replicaNumbers_k11 : (Rows.replicaNumbersRow.unfollowed == Tryz.prog.unfollowed 3) = true := by kernel_rfl
theorem replicaNumbers_k12 : (Rows.replicaNumbersRow.recurses == Tryz.prog.recurses 3) = true := by kernel_rfl
theorem replicaNumbers_k13 : (Rows.replicaNumbersRow.named == Tryz.prog.varsNamed 3) = true := by kernel_rfl
theorem replicaNumbers_k14 : (Rows.replicaNumbersRow.maps == (Tryz.f3.params.toList ++ Rows.replicaNumbersSpec.plain.varTypes Tryz.prog).any (Tryz.prog.mapsRec ·)) = true := by kernel_rfl
theorem replicaNumbers_k15 : (Rows.replicaNumbersRow.ifaces == (Tryz.f3.params.toList ++ Rows.replicaNumbersSpec.plain.varTypes Tryz.prog).any (Tryz.prog.ifacesRec ·)) = true := by kernel_rfl
theorem replicaNumbers_k16 : (Rows.replicaNumbersRow.mapsOut == Tryz.prog.mapsAmong Tryz.f3.resultTypes.toList) = true := by kernel_rfl
theorem replicaNumbers_k17 : (Rows.replicaNumbersRow.loops == (Tryz.f3.params.toList ++ Rows.replicaNumbersSpec.plain.varTypes Tryz.prog).any (Tryz.prog.loopsFrom ·)) = true := by kernel_rfl
theorem replicaNumbers_k17b : (Rows.replicaNumbersRow.wideKeys == (Tryz.f3.params.toList ++ Rows.replicaNumbersSpec.plain.varTypes Tryz.prog ++ Tryz.f3.resultTypes.toList).any (Tryz.prog.wideKeysFrom ·)) = true := by kernel_rfl
theorem replicaNumbers_k18 : Rows.replicaNumbersSpec.vars.all (Tryz.prog.varReadable ·) = true := by kernel_rfl
theorem replicaNumbers_k19 : Tryz.f3.resultTypes.all (fun t => Tryz.prog.readableRec t && decide (t < Tryz.prog.types.size)) = true := by kernel_rfl
theorem replicaNumbers_k20 : (Rows.replicaNumbersRow.ifacesOut == Tryz.f3.resultTypes.toList.any (Tryz.prog.ifacesRec ·)) = true := by kernel_rfl
theorem replicaNumbers_k21 : (Rows.replicaNumbersRow.loopsOut == Tryz.f3.resultTypes.toList.any (Tryz.prog.loopsFrom ·)) = true := by kernel_rfl
theorem replicaNumbers_k22 : (Rows.replicaNumbersRow.plainKeys == Tryz.prog.plainKeys) = true := by kernel_rfl
theorem replicaNumbers_k23 : Rows.replicaNumbersRow.shortTexts.isNone = true := by kernel_rfl
theorem replicaNumbers_k23b : Tryz.prog.stopsHeard = true := by kernel_rfl
theorem replicaNumbers_k24 : Tryz.prog.mayEnter = true := by kernel_rfl
theorem replicaNumbers_k24b : (Rows.replicaNumbersRow.lifted == Tryz.prog.liftsFinal) = true := by kernel_rfl
theorem replicaNumbers_k24c : (Tryz.prog.make == some Rows.replicaNumbersRow.make) = true := by kernel_rfl
theorem replicaNumbers_k25 : (Rows.replicaNumbersRow.kinds == (if Rows.replicaNumbersRow.domain.isEmpty then [] else Tryz.f3.params.toList.map fun t => match Tryz.prog.underlying t with | some (.int k) => some k | _ => none)) = true := by kernel_rfl
theorem replicaNumbers_k26 : (Rows.replicaNumbersRow.pinned == Rows.replicaNumbersRow.pinnedBy) = true := by kernel_rfl
theorem replicaNumbers_k27 : (Rows.replicaNumbersRow.veiled == (Tryz.f3.params.toList ++ Rows.replicaNumbersSpec.plain.varTypes Tryz.prog ++ Tryz.f3.resultTypes.toList).any (Tryz.prog.veiledRec ·)) = true := by kernel_rfl
theorem replicaNumbers_k28 : Rows.replicaNumbersRow.veiledFits Tryz.prog Tryz.f3.params.toList (Tryz.f3.params.toList ++ Rows.replicaNumbersSpec.plain.varTypes Tryz.prog ++ Tryz.f3.resultTypes.toList) = true := by kernel_rfl
theorem replicaNumbers_facts : joinedFacts Tryz.prog 3 Tryz.f3 Rows.replicaNumbersSpec Rows.replicaNumbersRow = true :=
  joined_of replicaNumbers_k1 Tryz.laidOut replicaNumbers_k3 replicaNumbers_k4 replicaNumbers_k5 replicaNumbers_k6 replicaNumbers_k7 replicaNumbers_k8 replicaNumbers_k9 replicaNumbers_k10 replicaNumbers_k11 replicaNumbers_k12 replicaNumbers_k13 replicaNumbers_k14 replicaNumbers_k15 replicaNumbers_k16 replicaNumbers_k17 replicaNumbers_k17b replicaNumbers_k18 replicaNumbers_k19 replicaNumbers_k20 replicaNumbers_k21 replicaNumbers_k22 replicaNumbers_k23 replicaNumbers_k23b replicaNumbers_k24 replicaNumbers_k24b replicaNumbers_k24c replicaNumbers_k25 replicaNumbers_k26 replicaNumbers_k27 replicaNumbers_k28
end Go.Proofs.YtenimkekacdojaaGreat
