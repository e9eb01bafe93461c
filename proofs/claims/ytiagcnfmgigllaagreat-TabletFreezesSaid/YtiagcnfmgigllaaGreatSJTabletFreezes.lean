/- A part of a proof over the abstract machine. No conditions. -/
import Derived.Test.YtiagcnfmgigllaaGreatSeatK
import Derived.Test.YtiagcnfmgigllaaGreatAb4
namespace Go.Proofs.YtiagcnfmgigllaaGreat
open Go Go.Ab
set_option maxRecDepth 100000
theorem i0t:Rows.tabletFreezesRow.wf (OpenSpec.ofChange Rows.tabletFreezesSpec) = true:=by kernel_rfl
theorem i0V:mapsRowed Tryz.prog = true:=by kernel_rfl
theorem i0k:(Tryz.f4.params.all (Tryz.prog.readableRec ·)) = true:=by kernel_rfl
theorem i0H:namedTie Tryz.prog Rows.tabletFreezesRow.named Rows.tabletFreezesSpec.vars = true:=by kernel_rfl
theorem i0K:(Rows.tabletFreezesRow.stops == []) = true:=by kernel_rfl
theorem i0g:(Tryz.prog.stops == []) = true:=by kernel_rfl
theorem i0p:(Rows.tabletFreezesRow.knobs == []) = true:=by kernel_rfl
theorem i0j:(Tryz.prog.stopKnobs == []) = true:=by kernel_rfl
theorem g0N:(Rows.tabletFreezesRow.inPlace == Tryz.prog.inPlace 4) = true:=by kernel_rfl
theorem h0u:(Rows.tabletFreezesRow.unfollowed == Tryz.prog.unfollowed 4) = true:=by kernel_rfl
theorem h0a:(Rows.tabletFreezesRow.recurses == Tryz.prog.recurses 4) = true:=by kernel_rfl
theorem h0Q:(Rows.tabletFreezesRow.named == Tryz.prog.varsNamed 4) = true:=by kernel_rfl
theorem h0O:(Rows.tabletFreezesRow.maps == (Tryz.f4.params.toList++Rows.tabletFreezesSpec.plain.varTypes Tryz.prog).any (Tryz.prog.mapsRec ·)) = true:=by kernel_rfl
theorem g0R:(Rows.tabletFreezesRow.ifaces == (Tryz.f4.params.toList++Rows.tabletFreezesSpec.plain.varTypes Tryz.prog).any (Tryz.prog.ifacesRec ·)) = true:=by kernel_rfl
theorem h0D:(Rows.tabletFreezesRow.mapsOut == Tryz.prog.mapsAmong Tryz.f4.resultTypes.toList) = true:=by kernel_rfl
theorem h0R:(Rows.tabletFreezesRow.loops == (Tryz.f4.params.toList++Rows.tabletFreezesSpec.plain.varTypes Tryz.prog).any (Tryz.prog.loopsFrom ·)) = true:=by kernel_rfl
theorem g0o:(Rows.tabletFreezesRow.wideKeys == (Tryz.f4.params.toList++Rows.tabletFreezesSpec.plain.varTypes Tryz.prog++Tryz.f4.resultTypes.toList).any (Tryz.prog.wideKeysFrom ·)) = true:=by kernel_rfl
theorem h0g:Rows.tabletFreezesSpec.vars.all (Tryz.prog.varReadable ·) = true:=by kernel_rfl
theorem i0a:Tryz.f4.resultTypes.all (fun t=>Tryz.prog.readableRec t && decide (t < Tryz.prog.types.size)) = true:=by kernel_rfl
theorem h0V:(Rows.tabletFreezesRow.ifacesOut == Tryz.f4.resultTypes.toList.any (Tryz.prog.ifacesRec ·)) = true:=by kernel_rfl
theorem h0y:(Rows.tabletFreezesRow.loopsOut == Tryz.f4.resultTypes.toList.any (Tryz.prog.loopsFrom ·)) = true:=by kernel_rfl
theorem g0Q:(Rows.tabletFreezesRow.plainKeys == Tryz.prog.plainKeys) = true:=by kernel_rfl
theorem h0U:Rows.tabletFreezesRow.shortTexts.isNone = true:=by kernel_rfl
theorem g0z:Tryz.prog.stopsHeard = true:=by kernel_rfl
theorem h0t:Tryz.prog.mayEnter = true:=by kernel_rfl
theorem g0J:(Rows.tabletFreezesRow.lifted == Tryz.prog.liftsFinal) = true:=by kernel_rfl
theorem g0H:(Tryz.prog.make == some Rows.tabletFreezesRow.make) = true:=by kernel_rfl
theorem h0h:(Rows.tabletFreezesRow.kinds == (if Rows.tabletFreezesRow.domain.isEmpty then [] else Tryz.f4.params.toList.map fun t=>match Tryz.prog.underlying t with | some (.int k)=>some k | _=>none)) = true:=by kernel_rfl
theorem h0q:(Rows.tabletFreezesRow.pinned == Rows.tabletFreezesRow.pinnedBy) = true:=by kernel_rfl
theorem h0v:(Rows.tabletFreezesRow.veiled == (Tryz.f4.params.toList++Rows.tabletFreezesSpec.plain.varTypes Tryz.prog++Tryz.f4.resultTypes.toList).any (Tryz.prog.veiledRec ·)) = true:=by kernel_rfl
theorem h0P:Rows.tabletFreezesRow.veiledFits Tryz.prog Tryz.f4.params.toList (Tryz.f4.params.toList++Rows.tabletFreezesSpec.plain.varTypes Tryz.prog++Tryz.f4.resultTypes.toList) = true:=by kernel_rfl
theorem f0T:joinedFacts Tryz.prog 4 Tryz.f4 Rows.tabletFreezesSpec Rows.tabletFreezesRow = true :=
 s0z i0t Tryz.laidOut i0V i0k i0H i0K i0g i0p i0j g0N h0u h0a h0Q h0O g0R h0D h0R g0o h0g i0a h0V h0y g0Q h0U g0z h0t g0J g0H h0h h0q h0v h0P
end Go.Proofs.YtiagcnfmgigllaaGreat
