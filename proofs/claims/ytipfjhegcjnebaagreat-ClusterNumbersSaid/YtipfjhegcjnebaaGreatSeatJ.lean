/- A part of a proof over the abstract machine. No conditions. -/
import Derived.Test.YtipfjhegcjnebaaGreatSeatA
import Derived.Test.YtipfjhegcjnebaaGreatAb4
namespace Go.Proofs.YtipfjhegcjnebaaGreat
open Go Go.Ab
set_option maxRecDepth 100000
theorem clusterNumbers_k1 : Rows.clusterNumbersRow.wf (OpenSpec.ofChange Rows.clusterNumbersSpec) = true := by kernel_rfl
theorem clusterNumbers_k3 : mapsRowed Tryz.prog = true := by kernel_rfl
theorem clusterNumbers_k4 : (Tryz.f3.params.all (Tryz.prog.readableRec ·)) = true := by kernel_rfl
theorem clusterNumbers_k5 : namedTie Tryz.prog Rows.clusterNumbersRow.named Rows.clusterNumbersSpec.vars = true := by kernel_rfl
theorem clusterNumbers_k6 : (Rows.clusterNumbersRow.stops == []) = true := by kernel_rfl
theorem clusterNumbers_k7 : (Tryz.prog.stops == []) = true := by kernel_rfl
theorem clusterNumbers_k8 : (Rows.clusterNumbersRow.knobs == []) = true := by kernel_rfl
theorem clusterNumbers_k9 : (Tryz.prog.stopKnobs == []) = true := by kernel_rfl
theorem clusterNumbers_k10 : (Rows.clusterNumbersRow.inPlace == Tryz.prog.inPlace 3) = true := by kernel_rfl
theorem clusterNumbers_k11 : (Rows.clusterNumbersRow.unfollowed == Tryz.prog.unfollowed 3) = true := by kernel_rfl
theorem clusterNumbers_k12 : (Rows.clusterNumbersRow.recurses == Tryz.prog.recurses 3) = true := by kernel_rfl
theorem clusterNumbers_k13 : (Rows.clusterNumbersRow.named == Tryz.prog.varsNamed 3) = true := by kernel_rfl
theorem clusterNumbers_k14 : (Rows.clusterNumbersRow.maps == (Tryz.f3.params.toList ++ Rows.clusterNumbersSpec.plain.varTypes Tryz.prog).any (Tryz.prog.mapsRec ·)) = true := by kernel_rfl
theorem clusterNumbers_k15 : (Rows.clusterNumbersRow.ifaces == (Tryz.f3.params.toList ++ Rows.clusterNumbersSpec.plain.varTypes Tryz.prog).any (Tryz.prog.ifacesRec ·)) = true := by kernel_rfl
theorem clusterNumbers_k16 : (Rows.clusterNumbersRow.mapsOut == Tryz.prog.mapsAmong Tryz.f3.resultTypes.toList) = true := by kernel_rfl
theorem clusterNumbers_k17 : (Rows.clusterNumbersRow.loops == (Tryz.f3.params.toList ++ Rows.clusterNumbersSpec.plain.varTypes Tryz.prog).any (Tryz.prog.loopsFrom ·)) = true := by kernel_rfl
theorem clusterNumbers_k17b : (Rows.clusterNumbersRow.wideKeys == (Tryz.f3.params.toList ++ Rows.clusterNumbersSpec.plain.varTypes Tryz.prog ++ Tryz.f3.resultTypes.toList).any (Tryz.prog.wideKeysFrom ·)) = true := by kernel_rfl
theorem clusterNumbers_k18 : Rows.clusterNumbersSpec.vars.all (Tryz.prog.varReadable ·) = true := by kernel_rfl
theorem clusterNumbers_k19 : Tryz.f3.resultTypes.all (fun t => Tryz.prog.readableRec t && decide (t < Tryz.prog.types.size)) = true := by kernel_rfl
theorem clusterNumbers_k20 : (Rows.clusterNumbersRow.ifacesOut == Tryz.f3.resultTypes.toList.any (Tryz.prog.ifacesRec ·)) = true := by kernel_rfl
theorem clusterNumbers_k21 : (Rows.clusterNumbersRow.loopsOut == Tryz.f3.resultTypes.toList.any (Tryz.prog.loopsFrom ·)) = true := by kernel_rfl
theorem clusterNumbers_k22 : (Rows.clusterNumbersRow.plainKeys == Tryz.prog.plainKeys) = true := by kernel_rfl
theorem clusterNumbers_k23 : Rows.clusterNumbersRow.shortTexts.isNone = true := by kernel_rfl
theorem clusterNumbers_k23b : Tryz.prog.stopsHeard = true := by kernel_rfl
theorem clusterNumbers_k24 : Tryz.prog.mayEnter = true := by kernel_rfl
theorem clusterNumbers_k24b : (Rows.clusterNumbersRow.lifted == Tryz.prog.liftsFinal) = true := by kernel_rfl
theorem clusterNumbers_k24c : (Tryz.prog.make == some Rows.clusterNumbersRow.make) = true := by kernel_rfl
theorem clusterNumbers_k25 : (Rows.clusterNumbersRow.kinds == (if Rows.clusterNumbersRow.domain.isEmpty then [] else Tryz.f3.params.toList.map fun t => match Tryz.prog.underlying t with | some (.int k) => some k | _ => none)) = true := by kernel_rfl
theorem clusterNumbers_k26 : (Rows.clusterNumbersRow.pinned == Rows.clusterNumbersRow.pinnedBy) = true := by kernel_rfl
theorem clusterNumbers_k27 : (Rows.clusterNumbersRow.veiled == (Tryz.f3.params.toList ++ Rows.clusterNumbersSpec.plain.varTypes Tryz.prog ++ Tryz.f3.resultTypes.toList).any (Tryz.prog.veiledRec ·)) = true := by kernel_rfl
theorem clusterNumbers_k28 : Rows.clusterNumbersRow.veiledFits Tryz.prog Tryz.f3.params.toList (Tryz.f3.params.toList ++ Rows.clusterNumbersSpec.plain.varTypes Tryz.prog ++ Tryz.f3.resultTypes.toList) = true := by kernel_rfl
theorem clusterNumbers_facts : joinedFacts Tryz.prog 3 Tryz.f3 Rows.clusterNumbersSpec Rows.clusterNumbersRow = true :=
  joined_of clusterNumbers_k1 Tryz.laidOut clusterNumbers_k3 clusterNumbers_k4 clusterNumbers_k5 clusterNumbers_k6 clusterNumbers_k7 clusterNumbers_k8 clusterNumbers_k9 clusterNumbers_k10 clusterNumbers_k11 clusterNumbers_k12 clusterNumbers_k13 clusterNumbers_k14 clusterNumbers_k15 clusterNumbers_k16 clusterNumbers_k17 clusterNumbers_k17b clusterNumbers_k18 clusterNumbers_k19 clusterNumbers_k20 clusterNumbers_k21 clusterNumbers_k22 clusterNumbers_k23 clusterNumbers_k23b clusterNumbers_k24 clusterNumbers_k24b clusterNumbers_k24c clusterNumbers_k25 clusterNumbers_k26 clusterNumbers_k27 clusterNumbers_k28
end Go.Proofs.YtipfjhegcjnebaaGreat
