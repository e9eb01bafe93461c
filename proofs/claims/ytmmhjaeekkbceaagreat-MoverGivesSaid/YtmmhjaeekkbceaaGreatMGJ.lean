/- A part of a proof over the abstract machine. No conditions. -/
import Derived.Test.YtmmhjaeekkbceaaGreatSeatK
import Derived.Test.YtmmhjaeekkbceaaGreatAb4
namespace Go.Proofs.YtmmhjaeekkbceaaGreat
open Go Go.Ab
set_option maxRecDepth 100000
theorem moverGives_k1:Rows.moverGivesRow.wf (OpenSpec.ofChange Rows.moverGivesSpec) = true:=by kernel_rfl
theorem moverGives_k3:mapsRowed Tryz.prog = true:=by kernel_rfl
theorem moverGives_k4:(Tryz.f3.params.all (Tryz.prog.readableRec ·)) = true:=by kernel_rfl
theorem moverGives_k5:namedTie Tryz.prog Rows.moverGivesRow.named Rows.moverGivesSpec.vars = true:=by kernel_rfl
theorem moverGives_k6:(Rows.moverGivesRow.stops == []) = true:=by kernel_rfl
theorem moverGives_k7:(Tryz.prog.stops == []) = true:=by kernel_rfl
theorem moverGives_k8:(Rows.moverGivesRow.knobs == []) = true:=by kernel_rfl
theorem moverGives_k9:(Tryz.prog.stopKnobs == []) = true:=by kernel_rfl
theorem moverGives_k10:(Rows.moverGivesRow.inPlace == Tryz.prog.inPlace 3) = true:=by kernel_rfl
theorem moverGives_k11:(Rows.moverGivesRow.unfollowed == Tryz.prog.unfollowed 3) = true:=by kernel_rfl
theorem moverGives_k12:(Rows.moverGivesRow.recurses == Tryz.prog.recurses 3) = true:=by kernel_rfl
theorem moverGives_k13:(Rows.moverGivesRow.named == Tryz.prog.varsNamed 3) = true:=by kernel_rfl
theorem moverGives_k14:(Rows.moverGivesRow.maps == (Tryz.f3.params.toList++Rows.moverGivesSpec.plain.varTypes Tryz.prog).any (Tryz.prog.mapsRec ·)) = true:=by kernel_rfl
theorem moverGives_k15:(Rows.moverGivesRow.ifaces == (Tryz.f3.params.toList++Rows.moverGivesSpec.plain.varTypes Tryz.prog).any (Tryz.prog.ifacesRec ·)) = true:=by kernel_rfl
theorem moverGives_k16:(Rows.moverGivesRow.mapsOut == Tryz.prog.mapsAmong Tryz.f3.resultTypes.toList) = true:=by kernel_rfl
theorem moverGives_k17:(Rows.moverGivesRow.loops == (Tryz.f3.params.toList++Rows.moverGivesSpec.plain.varTypes Tryz.prog).any (Tryz.prog.loopsFrom ·)) = true:=by kernel_rfl
theorem moverGives_k17b:(Rows.moverGivesRow.wideKeys == (Tryz.f3.params.toList++Rows.moverGivesSpec.plain.varTypes Tryz.prog++Tryz.f3.resultTypes.toList).any (Tryz.prog.wideKeysFrom ·)) = true:=by kernel_rfl
theorem moverGives_k18:Rows.moverGivesSpec.vars.all (Tryz.prog.varReadable ·) = true:=by kernel_rfl
theorem moverGives_k19:Tryz.f3.resultTypes.all (fun t=>Tryz.prog.readableRec t && decide (t < Tryz.prog.types.size)) = true:=by kernel_rfl
theorem moverGives_k20:(Rows.moverGivesRow.ifacesOut == Tryz.f3.resultTypes.toList.any (Tryz.prog.ifacesRec ·)) = true:=by kernel_rfl
theorem moverGives_k21:(Rows.moverGivesRow.loopsOut == Tryz.f3.resultTypes.toList.any (Tryz.prog.loopsFrom ·)) = true:=by kernel_rfl
theorem moverGives_k22:(Rows.moverGivesRow.plainKeys == Tryz.prog.plainKeys) = true:=by kernel_rfl
theorem moverGives_k23:Rows.moverGivesRow.shortTexts.isNone = true:=by kernel_rfl
theorem moverGives_k23b:Tryz.prog.stopsHeard = true:=by kernel_rfl
theorem moverGives_k24:Tryz.prog.mayEnter = true:=by kernel_rfl
theorem moverGives_k24b:(Rows.moverGivesRow.lifted == Tryz.prog.liftsFinal) = true:=by kernel_rfl
theorem moverGives_k24c:(Tryz.prog.make == some Rows.moverGivesRow.make) = true:=by kernel_rfl
theorem moverGives_k25:(Rows.moverGivesRow.kinds == (if Rows.moverGivesRow.domain.isEmpty then [] else Tryz.f3.params.toList.map fun t=>match Tryz.prog.underlying t with | some (.int k)=>some k | _=>none)) = true:=by kernel_rfl
theorem moverGives_k26:(Rows.moverGivesRow.pinned == Rows.moverGivesRow.pinnedBy) = true:=by kernel_rfl
theorem moverGives_k27:(Rows.moverGivesRow.veiled == (Tryz.f3.params.toList++Rows.moverGivesSpec.plain.varTypes Tryz.prog++Tryz.f3.resultTypes.toList).any (Tryz.prog.veiledRec ·)) = true:=by kernel_rfl
theorem moverGives_k28:Rows.moverGivesRow.veiledFits Tryz.prog Tryz.f3.params.toList (Tryz.f3.params.toList++Rows.moverGivesSpec.plain.varTypes Tryz.prog++Tryz.f3.resultTypes.toList) = true:=by kernel_rfl
theorem moverGives_facts:joinedFacts Tryz.prog 3 Tryz.f3 Rows.moverGivesSpec Rows.moverGivesRow = true :=
 joined_of moverGives_k1 Tryz.laidOut moverGives_k3 moverGives_k4 moverGives_k5 moverGives_k6 moverGives_k7 moverGives_k8 moverGives_k9 moverGives_k10 moverGives_k11 moverGives_k12 moverGives_k13 moverGives_k14 moverGives_k15 moverGives_k16 moverGives_k17 moverGives_k17b moverGives_k18 moverGives_k19 moverGives_k20 moverGives_k21 moverGives_k22 moverGives_k23 moverGives_k23b moverGives_k24 moverGives_k24b moverGives_k24c moverGives_k25 moverGives_k26 moverGives_k27 moverGives_k28
end Go.Proofs.YtmmhjaeekkbceaaGreat
