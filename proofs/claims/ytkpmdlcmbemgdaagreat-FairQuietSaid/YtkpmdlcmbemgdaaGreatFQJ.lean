/- A part of a proof over the abstract machine. No conditions. -/
import Derived.Test.YtkpmdlcmbemgdaaGreatSeatK
import Derived.Test.YtkpmdlcmbemgdaaGreatAb4
namespace Go.Proofs.YtkpmdlcmbemgdaaGreat
open Go Go.Ab
set_option maxRecDepth 100000
theorem fairQuiet_k1:Rows.fairQuietRow.wf (OpenSpec.ofChange Rows.fairQuietSpec) = true:=by kernel_rfl
theorem fairQuiet_k3:mapsRowed Tryz.prog = true:=by kernel_rfl
theorem fairQuiet_k4:(Tryz.f3.params.all (Tryz.prog.readableRec ·)) = true:=by kernel_rfl
theorem fairQuiet_k5:namedTie Tryz.prog Rows.fairQuietRow.named Rows.fairQuietSpec.vars = true:=by kernel_rfl
theorem fairQuiet_k6:(Rows.fairQuietRow.stops == []) = true:=by kernel_rfl
theorem fairQuiet_k7:(Tryz.prog.stops == []) = true:=by kernel_rfl
theorem fairQuiet_k8:(Rows.fairQuietRow.knobs == []) = true:=by kernel_rfl
theorem fairQuiet_k9:(Tryz.prog.stopKnobs == []) = true:=by kernel_rfl
theorem fairQuiet_k10:(Rows.fairQuietRow.inPlace == Tryz.prog.inPlace 3) = true:=by kernel_rfl
theorem fairQuiet_k11:(Rows.fairQuietRow.unfollowed == Tryz.prog.unfollowed 3) = true:=by kernel_rfl
theorem fairQuiet_k12:(Rows.fairQuietRow.recurses == Tryz.prog.recurses 3) = true:=by kernel_rfl
theorem fairQuiet_k13:(Rows.fairQuietRow.named == Tryz.prog.varsNamed 3) = true:=by kernel_rfl
theorem fairQuiet_k14:(Rows.fairQuietRow.maps == (Tryz.f3.params.toList++Rows.fairQuietSpec.plain.varTypes Tryz.prog).any (Tryz.prog.mapsRec ·)) = true:=by kernel_rfl
theorem fairQuiet_k15:(Rows.fairQuietRow.ifaces == (Tryz.f3.params.toList++Rows.fairQuietSpec.plain.varTypes Tryz.prog).any (Tryz.prog.ifacesRec ·)) = true:=by kernel_rfl
theorem fairQuiet_k16:(Rows.fairQuietRow.mapsOut == Tryz.prog.mapsAmong Tryz.f3.resultTypes.toList) = true:=by kernel_rfl
theorem fairQuiet_k17:(Rows.fairQuietRow.loops == (Tryz.f3.params.toList++Rows.fairQuietSpec.plain.varTypes Tryz.prog).any (Tryz.prog.loopsFrom ·)) = true:=by kernel_rfl
theorem fairQuiet_k17b:(Rows.fairQuietRow.wideKeys == (Tryz.f3.params.toList++Rows.fairQuietSpec.plain.varTypes Tryz.prog++Tryz.f3.resultTypes.toList).any (Tryz.prog.wideKeysFrom ·)) = true:=by kernel_rfl
theorem fairQuiet_k18:Rows.fairQuietSpec.vars.all (Tryz.prog.varReadable ·) = true:=by kernel_rfl
theorem fairQuiet_k19:Tryz.f3.resultTypes.all (fun t=>Tryz.prog.readableRec t && decide (t < Tryz.prog.types.size)) = true:=by kernel_rfl
theorem fairQuiet_k20:(Rows.fairQuietRow.ifacesOut == Tryz.f3.resultTypes.toList.any (Tryz.prog.ifacesRec ·)) = true:=by kernel_rfl
theorem fairQuiet_k21:(Rows.fairQuietRow.loopsOut == Tryz.f3.resultTypes.toList.any (Tryz.prog.loopsFrom ·)) = true:=by kernel_rfl
theorem fairQuiet_k22:(Rows.fairQuietRow.plainKeys == Tryz.prog.plainKeys) = true:=by kernel_rfl
theorem fairQuiet_k23:Rows.fairQuietRow.shortTexts.isNone = true:=by kernel_rfl
theorem fairQuiet_k23b:Tryz.prog.stopsHeard = true:=by kernel_rfl
theorem fairQuiet_k24:Tryz.prog.mayEnter = true:=by kernel_rfl
theorem fairQuiet_k24b:(Rows.fairQuietRow.lifted == Tryz.prog.liftsFinal) = true:=by kernel_rfl
theorem fairQuiet_k24c:(Tryz.prog.make == some Rows.fairQuietRow.make) = true:=by kernel_rfl
theorem fairQuiet_k25:(Rows.fairQuietRow.kinds == (if Rows.fairQuietRow.domain.isEmpty then [] else Tryz.f3.params.toList.map fun t=>match Tryz.prog.underlying t with | some (.int k)=>some k | _=>none)) = true:=by kernel_rfl
theorem fairQuiet_k26:(Rows.fairQuietRow.pinned == Rows.fairQuietRow.pinnedBy) = true:=by kernel_rfl
theorem fairQuiet_k27:(Rows.fairQuietRow.veiled == (Tryz.f3.params.toList++Rows.fairQuietSpec.plain.varTypes Tryz.prog++Tryz.f3.resultTypes.toList).any (Tryz.prog.veiledRec ·)) = true:=by kernel_rfl
theorem fairQuiet_k28:Rows.fairQuietRow.veiledFits Tryz.prog Tryz.f3.params.toList (Tryz.f3.params.toList++Rows.fairQuietSpec.plain.varTypes Tryz.prog++Tryz.f3.resultTypes.toList) = true:=by kernel_rfl
theorem fairQuiet_facts:joinedFacts Tryz.prog 3 Tryz.f3 Rows.fairQuietSpec Rows.fairQuietRow = true :=
 joined_of fairQuiet_k1 Tryz.laidOut fairQuiet_k3 fairQuiet_k4 fairQuiet_k5 fairQuiet_k6 fairQuiet_k7 fairQuiet_k8 fairQuiet_k9 fairQuiet_k10 fairQuiet_k11 fairQuiet_k12 fairQuiet_k13 fairQuiet_k14 fairQuiet_k15 fairQuiet_k16 fairQuiet_k17 fairQuiet_k17b fairQuiet_k18 fairQuiet_k19 fairQuiet_k20 fairQuiet_k21 fairQuiet_k22 fairQuiet_k23 fairQuiet_k23b fairQuiet_k24 fairQuiet_k24b fairQuiet_k24c fairQuiet_k25 fairQuiet_k26 fairQuiet_k27 fairQuiet_k28
end Go.Proofs.YtkpmdlcmbemgdaaGreat
