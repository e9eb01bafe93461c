/- A part of a proof over the abstract machine. No conditions. -/
import Derived.Test.YtofafocfemikcaaGreatSeatK
import Derived.Test.YtofafocfemikcaaGreatAb4
namespace Go.Proofs.YtofafocfemikcaaGreat
open Go Go.Ab
set_option maxRecDepth 100000
theorem shellReads_k1:Rows.shellReadsRow.wf (OpenSpec.ofChange Rows.shellReadsSpec) = true:=by kernel_rfl
theorem shellReads_k3:mapsRowed Tryz.prog = true:=by kernel_rfl
theorem shellReads_k4:(Tryz.f4.params.all (Tryz.prog.readableRec ·)) = true:=by kernel_rfl
theorem shellReads_k5:namedTie Tryz.prog Rows.shellReadsRow.named Rows.shellReadsSpec.vars = true:=by kernel_rfl
theorem shellReads_k6:(Rows.shellReadsRow.stops == []) = true:=by kernel_rfl
theorem shellReads_k7:(Tryz.prog.stops == []) = true:=by kernel_rfl
theorem shellReads_k8:(Rows.shellReadsRow.knobs == []) = true:=by kernel_rfl
theorem shellReads_k9:(Tryz.prog.stopKnobs == []) = true:=by kernel_rfl
theorem shellReads_k10:(Rows.shellReadsRow.inPlace == Tryz.prog.inPlace 4) = true:=by kernel_rfl
theorem shellReads_k11:(Rows.shellReadsRow.unfollowed == Tryz.prog.unfollowed 4) = true:=by kernel_rfl
theorem shellReads_k12:(Rows.shellReadsRow.recurses == Tryz.prog.recurses 4) = true:=by kernel_rfl
theorem shellReads_k13:(Rows.shellReadsRow.named == Tryz.prog.varsNamed 4) = true:=by kernel_rfl
theorem shellReads_k14:(Rows.shellReadsRow.maps == (Tryz.f4.params.toList++Rows.shellReadsSpec.plain.varTypes Tryz.prog).any (Tryz.prog.mapsRec ·)) = true:=by kernel_rfl
theorem shellReads_k15:(Rows.shellReadsRow.ifaces == (Tryz.f4.params.toList++Rows.shellReadsSpec.plain.varTypes Tryz.prog).any (Tryz.prog.ifacesRec ·)) = true:=by kernel_rfl
theorem shellReads_k16:(Rows.shellReadsRow.mapsOut == Tryz.prog.mapsAmong Tryz.f4.resultTypes.toList) = true:=by kernel_rfl
theorem shellReads_k17:(Rows.shellReadsRow.loops == (Tryz.f4.params.toList++Rows.shellReadsSpec.plain.varTypes Tryz.prog).any (Tryz.prog.loopsFrom ·)) = true:=by kernel_rfl
theorem shellReads_k17b:(Rows.shellReadsRow.wideKeys == (Tryz.f4.params.toList++Rows.shellReadsSpec.plain.varTypes Tryz.prog++Tryz.f4.resultTypes.toList).any (Tryz.prog.wideKeysFrom ·)) = true:=by kernel_rfl
theorem shellReads_k18:Rows.shellReadsSpec.vars.all (Tryz.prog.varReadable ·) = true:=by kernel_rfl
theorem shellReads_k19:Tryz.f4.resultTypes.all (fun t=>Tryz.prog.readableRec t && decide (t < Tryz.prog.types.size)) = true:=by kernel_rfl
theorem shellReads_k20:(Rows.shellReadsRow.ifacesOut == Tryz.f4.resultTypes.toList.any (Tryz.prog.ifacesRec ·)) = true:=by kernel_rfl
theorem shellReads_k21:(Rows.shellReadsRow.loopsOut == Tryz.f4.resultTypes.toList.any (Tryz.prog.loopsFrom ·)) = true:=by kernel_rfl
theorem shellReads_k22:(Rows.shellReadsRow.plainKeys == Tryz.prog.plainKeys) = true:=by kernel_rfl
theorem shellReads_k23:Rows.shellReadsRow.shortTexts.isNone = true:=by kernel_rfl
theorem shellReads_k23b:Tryz.prog.stopsHeard = true:=by kernel_rfl
theorem shellReads_k24:Tryz.prog.mayEnter = true:=by kernel_rfl
theorem shellReads_k24b:(Rows.shellReadsRow.lifted == Tryz.prog.liftsFinal) = true:=by kernel_rfl
theorem shellReads_k24c:(Tryz.prog.make == some Rows.shellReadsRow.make) = true:=by kernel_rfl
theorem shellReads_k25:(Rows.shellReadsRow.kinds == (if Rows.shellReadsRow.domain.isEmpty then [] else Tryz.f4.params.toList.map fun t=>match Tryz.prog.underlying t with | some (.int k)=>some k | _=>none)) = true:=by kernel_rfl
theorem shellReads_k26:(Rows.shellReadsRow.pinned == Rows.shellReadsRow.pinnedBy) = true:=by kernel_rfl
theorem shellReads_k27:(Rows.shellReadsRow.veiled == (Tryz.f4.params.toList++Rows.shellReadsSpec.plain.varTypes Tryz.prog++Tryz.f4.resultTypes.toList).any (Tryz.prog.veiledRec ·)) = true:=by kernel_rfl
theorem shellReads_k28:Rows.shellReadsRow.veiledFits Tryz.prog Tryz.f4.params.toList (Tryz.f4.params.toList++Rows.shellReadsSpec.plain.varTypes Tryz.prog++Tryz.f4.resultTypes.toList) = true:=by kernel_rfl
theorem shellReads_facts:joinedFacts Tryz.prog 4 Tryz.f4 Rows.shellReadsSpec Rows.shellReadsRow = true :=
 joined_of shellReads_k1 Tryz.laidOut shellReads_k3 shellReads_k4 shellReads_k5 shellReads_k6 shellReads_k7 shellReads_k8 shellReads_k9 shellReads_k10 shellReads_k11 shellReads_k12 shellReads_k13 shellReads_k14 shellReads_k15 shellReads_k16 shellReads_k17 shellReads_k17b shellReads_k18 shellReads_k19 shellReads_k20 shellReads_k21 shellReads_k22 shellReads_k23 shellReads_k23b shellReads_k24 shellReads_k24b shellReads_k24c shellReads_k25 shellReads_k26 shellReads_k27 shellReads_k28
end Go.Proofs.YtofafocfemikcaaGreat
