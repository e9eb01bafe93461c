/- A part of a proof over the abstract machine. No conditions. -/
import Derived.Test.YtiagcnfmgigllaaGreatSeatK
import Derived.Test.YtiagcnfmgigllaaGreatAb4
namespace Go.Proofs.YtiagcnfmgigllaaGreat
open Go Go.Ab
set_option maxRecDepth 100000
theorem tabletSplits_k1:Rows.tabletSplitsRow.wf (OpenSpec.ofChange Rows.tabletSplitsSpec) = true:=by kernel_rfl
theorem tabletSplits_k3:mapsRowed Tryz.prog = true:=by kernel_rfl
theorem tabletSplits_k4:(Tryz.f5.params.all (Tryz.prog.readableRec ·)) = true:=by kernel_rfl
theorem tabletSplits_k5:namedTie Tryz.prog Rows.tabletSplitsRow.named Rows.tabletSplitsSpec.vars = true:=by kernel_rfl
theorem tabletSplits_k6:(Rows.tabletSplitsRow.stops == []) = true:=by kernel_rfl
theorem tabletSplits_k7:(Tryz.prog.stops == []) = true:=by kernel_rfl
theorem tabletSplits_k8:(Rows.tabletSplitsRow.knobs == []) = true:=by kernel_rfl
theorem tabletSplits_k9:(Tryz.prog.stopKnobs == []) = true:=by kernel_rfl
theorem tabletSplits_k10:(Rows.tabletSplitsRow.inPlace == Tryz.prog.inPlace 5) = true:=by kernel_rfl
theorem tabletSplits_k11:(Rows.tabletSplitsRow.unfollowed == Tryz.prog.unfollowed 5) = true:=by kernel_rfl
theorem tabletSplits_k12:(Rows.tabletSplitsRow.recurses == Tryz.prog.recurses 5) = true:=by kernel_rfl
theorem tabletSplits_k13:(Rows.tabletSplitsRow.named == Tryz.prog.varsNamed 5) = true:=by kernel_rfl
theorem tabletSplits_k14:(Rows.tabletSplitsRow.maps == (Tryz.f5.params.toList++Rows.tabletSplitsSpec.plain.varTypes Tryz.prog).any (Tryz.prog.mapsRec ·)) = true:=by kernel_rfl
theorem tabletSplits_k15:(Rows.tabletSplitsRow.ifaces == (Tryz.f5.params.toList++Rows.tabletSplitsSpec.plain.varTypes Tryz.prog).any (Tryz.prog.ifacesRec ·)) = true:=by kernel_rfl
theorem tabletSplits_k16:(Rows.tabletSplitsRow.mapsOut == Tryz.prog.mapsAmong Tryz.f5.resultTypes.toList) = true:=by kernel_rfl
theorem tabletSplits_k17:(Rows.tabletSplitsRow.loops == (Tryz.f5.params.toList++Rows.tabletSplitsSpec.plain.varTypes Tryz.prog).any (Tryz.prog.loopsFrom ·)) = true:=by kernel_rfl
theorem tabletSplits_k17b:(Rows.tabletSplitsRow.wideKeys == (Tryz.f5.params.toList++Rows.tabletSplitsSpec.plain.varTypes Tryz.prog++Tryz.f5.resultTypes.toList).any (Tryz.prog.wideKeysFrom ·)) = true:=by kernel_rfl
theorem tabletSplits_k18:Rows.tabletSplitsSpec.vars.all (Tryz.prog.varReadable ·) = true:=by kernel_rfl
theorem tabletSplits_k19:Tryz.f5.resultTypes.all (fun t=>Tryz.prog.readableRec t && decide (t < Tryz.prog.types.size)) = true:=by kernel_rfl
theorem tabletSplits_k20:(Rows.tabletSplitsRow.ifacesOut == Tryz.f5.resultTypes.toList.any (Tryz.prog.ifacesRec ·)) = true:=by kernel_rfl
theorem tabletSplits_k21:(Rows.tabletSplitsRow.loopsOut == Tryz.f5.resultTypes.toList.any (Tryz.prog.loopsFrom ·)) = true:=by kernel_rfl
theorem tabletSplits_k22:(Rows.tabletSplitsRow.plainKeys == Tryz.prog.plainKeys) = true:=by kernel_rfl
theorem tabletSplits_k23:Rows.tabletSplitsRow.shortTexts.isNone = true:=by kernel_rfl
theorem tabletSplits_k23b:Tryz.prog.stopsHeard = true:=by kernel_rfl
theorem tabletSplits_k24:Tryz.prog.mayEnter = true:=by kernel_rfl
theorem tabletSplits_k24b:(Rows.tabletSplitsRow.lifted == Tryz.prog.liftsFinal) = true:=by kernel_rfl
theorem tabletSplits_k24c:(Tryz.prog.make == some Rows.tabletSplitsRow.make) = true:=by kernel_rfl
theorem tabletSplits_k25:(Rows.tabletSplitsRow.kinds == (if Rows.tabletSplitsRow.domain.isEmpty then [] else Tryz.f5.params.toList.map fun t=>match Tryz.prog.underlying t with | some (.int k)=>some k | _=>none)) = true:=by kernel_rfl
theorem tabletSplits_k26:(Rows.tabletSplitsRow.pinned == Rows.tabletSplitsRow.pinnedBy) = true:=by kernel_rfl
theorem tabletSplits_k27:(Rows.tabletSplitsRow.veiled == (Tryz.f5.params.toList++Rows.tabletSplitsSpec.plain.varTypes Tryz.prog++Tryz.f5.resultTypes.toList).any (Tryz.prog.veiledRec ·)) = true:=by kernel_rfl
theorem tabletSplits_k28:Rows.tabletSplitsRow.veiledFits Tryz.prog Tryz.f5.params.toList (Tryz.f5.params.toList++Rows.tabletSplitsSpec.plain.varTypes Tryz.prog++Tryz.f5.resultTypes.toList) = true:=by kernel_rfl
theorem tabletSplits_facts:joinedFacts Tryz.prog 5 Tryz.f5 Rows.tabletSplitsSpec Rows.tabletSplitsRow = true :=
 joined_of tabletSplits_k1 Tryz.laidOut tabletSplits_k3 tabletSplits_k4 tabletSplits_k5 tabletSplits_k6 tabletSplits_k7 tabletSplits_k8 tabletSplits_k9 tabletSplits_k10 tabletSplits_k11 tabletSplits_k12 tabletSplits_k13 tabletSplits_k14 tabletSplits_k15 tabletSplits_k16 tabletSplits_k17 tabletSplits_k17b tabletSplits_k18 tabletSplits_k19 tabletSplits_k20 tabletSplits_k21 tabletSplits_k22 tabletSplits_k23 tabletSplits_k23b tabletSplits_k24 tabletSplits_k24b tabletSplits_k24c tabletSplits_k25 tabletSplits_k26 tabletSplits_k27 tabletSplits_k28
end Go.Proofs.YtiagcnfmgigllaaGreat
