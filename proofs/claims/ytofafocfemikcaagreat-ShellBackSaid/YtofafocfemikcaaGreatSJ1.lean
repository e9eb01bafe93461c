/- A part of a proof over the abstract machine. No conditions. -/
import Derived.Test.YtofafocfemikcaaGreatSeatK
import Derived.Test.YtofafocfemikcaaGreatAb4
namespace Go.Proofs.YtofafocfemikcaaGreat
open Go Go.Ab
set_option maxRecDepth 100000
theorem shellWrites_k1 : Rows.shellWritesRow.wf (OpenSpec.ofChange Rows.shellWritesSpec) = true := by kernel_rfl
theorem shellWrites_k3 : mapsRowed Tryz.prog = true := by kernel_rfl
theorem shellWrites_k4 : (Tryz.f3.params.all (Tryz.prog.readableRec ·)) = true := by kernel_rfl
theorem shellWrites_k5 : namedTie Tryz.prog Rows.shellWritesRow.named Rows.shellWritesSpec.vars = true := by kernel_rfl
theorem shellWrites_k6 : (Rows.shellWritesRow.stops == []) = true := by kernel_rfl
theorem shellWrites_k7 : (Tryz.prog.stops == []) = true := by kernel_rfl
theorem shellWrites_k8 : (Rows.shellWritesRow.knobs == []) = true := by kernel_rfl
theorem shellWrites_k9 : (Tryz.prog.stopKnobs == []) = true := by kernel_rfl
theorem shellWrites_k10 : (Rows.shellWritesRow.inPlace == Tryz.prog.inPlace 3) = true := by kernel_rfl
theorem shellWrites_k11 : (Rows.shellWritesRow.unfollowed == Tryz.prog.unfollowed 3) = true := by kernel_rfl
theorem shellWrites_k12 : (Rows.shellWritesRow.recurses == Tryz.prog.recurses 3) = true := by kernel_rfl
theorem shellWrites_k13 : (Rows.shellWritesRow.named == Tryz.prog.varsNamed 3) = true := by kernel_rfl
theorem shellWrites_k14 : (Rows.shellWritesRow.maps == (Tryz.f3.params.toList ++ Rows.shellWritesSpec.plain.varTypes Tryz.prog).any (Tryz.prog.mapsRec ·)) = true := by kernel_rfl
theorem shellWrites_k15 : (Rows.shellWritesRow.ifaces == (Tryz.f3.params.toList ++ Rows.shellWritesSpec.plain.varTypes Tryz.prog).any (Tryz.prog.ifacesRec ·)) = true := by kernel_rfl
theorem shellWrites_k16 : (Rows.shellWritesRow.mapsOut == Tryz.prog.mapsAmong Tryz.f3.resultTypes.toList) = true := by kernel_rfl
theorem shellWrites_k17 : (Rows.shellWritesRow.loops == (Tryz.f3.params.toList ++ Rows.shellWritesSpec.plain.varTypes Tryz.prog).any (Tryz.prog.loopsFrom ·)) = true := by kernel_rfl
theorem shellWrites_k17b : (Rows.shellWritesRow.wideKeys == (Tryz.f3.params.toList ++ Rows.shellWritesSpec.plain.varTypes Tryz.prog ++ Tryz.f3.resultTypes.toList).any (Tryz.prog.wideKeysFrom ·)) = true := by kernel_rfl
theorem shellWrites_k18 : Rows.shellWritesSpec.vars.all (Tryz.prog.varReadable ·) = true := by kernel_rfl
theorem shellWrites_k19 : Tryz.f3.resultTypes.all (fun t => Tryz.prog.readableRec t && decide (t < Tryz.prog.types.size)) = true := by kernel_rfl
theorem shellWrites_k20 : (Rows.shellWritesRow.ifacesOut == Tryz.f3.resultTypes.toList.any (Tryz.prog.ifacesRec ·)) = true := by kernel_rfl
theorem shellWrites_k21 : (Rows.shellWritesRow.loopsOut == Tryz.f3.resultTypes.toList.any (Tryz.prog.loopsFrom ·)) = true := by kernel_rfl
theorem shellWrites_k22 : (Rows.shellWritesRow.plainKeys == Tryz.prog.plainKeys) = true := by kernel_rfl
theorem shellWrites_k23 : Rows.shellWritesRow.shortTexts.isNone = true := by kernel_rfl
theorem shellWrites_k23b : Tryz.prog.stopsHeard = true := by kernel_rfl
theorem shellWrites_k24 : Tryz.prog.mayEnter = true := by kernel_rfl
theorem shellWrites_k24b : (Rows.shellWritesRow.lifted == Tryz.prog.liftsFinal) = true := by kernel_rfl
theorem shellWrites_k24c : (Tryz.prog.make == some Rows.shellWritesRow.make) = true := by kernel_rfl
theorem shellWrites_k25 : (Rows.shellWritesRow.kinds == (if Rows.shellWritesRow.domain.isEmpty then [] else Tryz.f3.params.toList.map fun t => match Tryz.prog.underlying t with | some (.int k) => some k | _ => none)) = true := by kernel_rfl
theorem shellWrites_k26 : (Rows.shellWritesRow.pinned == Rows.shellWritesRow.pinnedBy) = true := by kernel_rfl
theorem shellWrites_k27 : (Rows.shellWritesRow.veiled == (Tryz.f3.params.toList ++ Rows.shellWritesSpec.plain.varTypes Tryz.prog ++ Tryz.f3.resultTypes.toList).any (Tryz.prog.veiledRec ·)) = true := by kernel_rfl
theorem shellWrites_k28 : Rows.shellWritesRow.veiledFits Tryz.prog Tryz.f3.params.toList (Tryz.f3.params.toList ++ Rows.shellWritesSpec.plain.varTypes Tryz.prog ++ Tryz.f3.resultTypes.toList) = true := by kernel_rfl
theorem shellWrites_facts : joinedFacts Tryz.prog 3 Tryz.f3 Rows.shellWritesSpec Rows.shellWritesRow = true :=
 joined_of shellWrites_k1 Tryz.laidOut shellWrites_k3 shellWrites_k4 shellWrites_k5 shellWrites_k6 shellWrites_k7 shellWrites_k8 shellWrites_k9 shellWrites_k10 shellWrites_k11 shellWrites_k12 shellWrites_k13 shellWrites_k14 shellWrites_k15 shellWrites_k16 shellWrites_k17 shellWrites_k17b shellWrites_k18 shellWrites_k19 shellWrites_k20 shellWrites_k21 shellWrites_k22 shellWrites_k23 shellWrites_k23b shellWrites_k24 shellWrites_k24b shellWrites_k24c shellWrites_k25 shellWrites_k26 shellWrites_k27 shellWrites_k28
end Go.Proofs.YtofafocfemikcaaGreat
