/- A part of a proof over the abstract machine. No conditions. -/
import Derived.Test.YtofafocfemikcaaGreatSeatK
import Derived.Test.YtofafocfemikcaaGreatAb4
namespace Go.Proofs.YtofafocfemikcaaGreat
open Go Go.Ab
set_option maxRecDepth 100000
theorem shellBack_k1 : Rows.shellBackRow.wf (OpenSpec.ofChange Rows.shellBackSpec) = true := by kernel_rfl
theorem shellBack_k3 : mapsRowed Tryz.prog = true := by kernel_rfl
theorem shellBack_k4 : (Tryz.f5.params.all (Tryz.prog.readableRec ·)) = true := by kernel_rfl
theorem shellBack_k5 : namedTie Tryz.prog Rows.shellBackRow.named Rows.shellBackSpec.vars = true := by kernel_rfl
theorem shellBack_k6 : (Rows.shellBackRow.stops == []) = true := by kernel_rfl
theorem shellBack_k7 : (Tryz.prog.stops == []) = true := by kernel_rfl
theorem shellBack_k8 : (Rows.shellBackRow.knobs == []) = true := by kernel_rfl
theorem shellBack_k9 : (Tryz.prog.stopKnobs == []) = true := by kernel_rfl
theorem shellBack_k10 : (Rows.shellBackRow.inPlace == Tryz.prog.inPlace 5) = true := by kernel_rfl
theorem shellBack_k11 : (Rows.shellBackRow.unfollowed == Tryz.prog.unfollowed 5) = true := by kernel_rfl
theorem shellBack_k12 : (Rows.shellBackRow.recurses == Tryz.prog.recurses 5) = true := by kernel_rfl
theorem shellBack_k13 : (Rows.shellBackRow.named == Tryz.prog.varsNamed 5) = true := by kernel_rfl
theorem shellBack_k14 : (Rows.shellBackRow.maps == (Tryz.f5.params.toList ++ Rows.shellBackSpec.plain.varTypes Tryz.prog).any (Tryz.prog.mapsRec ·)) = true := by kernel_rfl
theorem shellBack_k15 : (Rows.shellBackRow.ifaces == (Tryz.f5.params.toList ++ Rows.shellBackSpec.plain.varTypes Tryz.prog).any (Tryz.prog.ifacesRec ·)) = true := by kernel_rfl
theorem shellBack_k16 : (Rows.shellBackRow.mapsOut == Tryz.prog.mapsAmong Tryz.f5.resultTypes.toList) = true := by kernel_rfl
theorem shellBack_k17 : (Rows.shellBackRow.loops == (Tryz.f5.params.toList ++ Rows.shellBackSpec.plain.varTypes Tryz.prog).any (Tryz.prog.loopsFrom ·)) = true := by kernel_rfl
theorem shellBack_k17b : (Rows.shellBackRow.wideKeys == (Tryz.f5.params.toList ++ Rows.shellBackSpec.plain.varTypes Tryz.prog ++ Tryz.f5.resultTypes.toList).any (Tryz.prog.wideKeysFrom ·)) = true := by kernel_rfl
theorem shellBack_k18 : Rows.shellBackSpec.vars.all (Tryz.prog.varReadable ·) = true := by kernel_rfl
theorem shellBack_k19 : Tryz.f5.resultTypes.all (fun t => Tryz.prog.readableRec t && decide (t < Tryz.prog.types.size)) = true := by kernel_rfl
theorem shellBack_k20 : (Rows.shellBackRow.ifacesOut == Tryz.f5.resultTypes.toList.any (Tryz.prog.ifacesRec ·)) = true := by kernel_rfl
theorem shellBack_k21 : (Rows.shellBackRow.loopsOut == Tryz.f5.resultTypes.toList.any (Tryz.prog.loopsFrom ·)) = true := by kernel_rfl
theorem shellBack_k22 : (Rows.shellBackRow.plainKeys == Tryz.prog.plainKeys) = true := by kernel_rfl
theorem shellBack_k23 : Rows.shellBackRow.shortTexts.isNone = true := by kernel_rfl
theorem shellBack_k23b : Tryz.prog.stopsHeard = true := by kernel_rfl
theorem shellBack_k24 : Tryz.prog.mayEnter = true := by kernel_rfl
theorem shellBack_k24b : (Rows.shellBackRow.lifted == Tryz.prog.liftsFinal) = true := by kernel_rfl
theorem shellBack_k24c : (Tryz.prog.make == some Rows.shellBackRow.make) = true := by kernel_rfl
theorem shellBack_k25 : (Rows.shellBackRow.kinds == (if Rows.shellBackRow.domain.isEmpty then [] else Tryz.f5.params.toList.map fun t => match Tryz.prog.underlying t with | some (.int k) => some k | _ => none)) = true := by kernel_rfl
theorem shellBack_k26 : (Rows.shellBackRow.pinned == Rows.shellBackRow.pinnedBy) = true := by kernel_rfl
theorem shellBack_k27 : (Rows.shellBackRow.veiled == (Tryz.f5.params.toList ++ Rows.shellBackSpec.plain.varTypes Tryz.prog ++ Tryz.f5.resultTypes.toList).any (Tryz.prog.veiledRec ·)) = true := by kernel_rfl
theorem shellBack_k28 : Rows.shellBackRow.veiledFits Tryz.prog Tryz.f5.params.toList (Tryz.f5.params.toList ++ Rows.shellBackSpec.plain.varTypes Tryz.prog ++ Tryz.f5.resultTypes.toList) = true := by kernel_rfl
theorem shellBack_facts : joinedFacts Tryz.prog 5 Tryz.f5 Rows.shellBackSpec Rows.shellBackRow = true :=
 joined_of shellBack_k1 Tryz.laidOut shellBack_k3 shellBack_k4 shellBack_k5 shellBack_k6 shellBack_k7 shellBack_k8 shellBack_k9 shellBack_k10 shellBack_k11 shellBack_k12 shellBack_k13 shellBack_k14 shellBack_k15 shellBack_k16 shellBack_k17 shellBack_k17b shellBack_k18 shellBack_k19 shellBack_k20 shellBack_k21 shellBack_k22 shellBack_k23 shellBack_k23b shellBack_k24 shellBack_k24b shellBack_k24c shellBack_k25 shellBack_k26 shellBack_k27 shellBack_k28
end Go.Proofs.YtofafocfemikcaaGreat
