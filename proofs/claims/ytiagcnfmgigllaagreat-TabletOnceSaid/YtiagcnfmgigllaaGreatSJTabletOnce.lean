/- A part of a proof over the abstract machine. No conditions. -/
import Derived.Test.YtiagcnfmgigllaaGreatSeatK
import Derived.Test.YtiagcnfmgigllaaGreatAb4
namespace Go.Proofs.YtiagcnfmgigllaaGreat
open Go Go.Ab Go.Proofs.Tryz
set_option maxRecDepth 100000
theorem l0T:Rows.tabletOnceRow.wf (OpenSpec.ofChange Rows.tabletOnceSpec) = true:=by kernel_rfl
theorem l0S:mapsRowed prog = true:=by kernel_rfl
theorem m0k:(f7.params.all (prog.readableRec ·)) = true:=by kernel_rfl
theorem m0l:namedTie prog Rows.tabletOnceRow.named Rows.tabletOnceSpec.vars = true:=by kernel_rfl
theorem m0g:(Rows.tabletOnceRow.stops == []) = true:=by kernel_rfl
theorem m0h:(prog.stops == []) = true:=by kernel_rfl
theorem m0a:(Rows.tabletOnceRow.knobs == []) = true:=by kernel_rfl
theorem l0R:(prog.stopKnobs == []) = true:=by kernel_rfl
theorem j0Z:(Rows.tabletOnceRow.inPlace == prog.inPlace 7) = true:=by kernel_rfl
theorem k0H:(Rows.tabletOnceRow.unfollowed == prog.unfollowed 7) = true:=by kernel_rfl
theorem k0z:(Rows.tabletOnceRow.recurses == prog.recurses 7) = true:=by kernel_rfl
theorem l0r:(Rows.tabletOnceRow.named == prog.varsNamed 7) = true:=by kernel_rfl
theorem k0N:(Rows.tabletOnceRow.maps == (f7.params.toList++Rows.tabletOnceSpec.plain.varTypes prog).any (prog.mapsRec ·)) = true:=by kernel_rfl
theorem l0Q:(Rows.tabletOnceRow.ifaces == (f7.params.toList++Rows.tabletOnceSpec.plain.varTypes prog).any (prog.ifacesRec ·)) = true:=by kernel_rfl
theorem k0K:(Rows.tabletOnceRow.mapsOut == prog.mapsAmong f7.resultTypes.toList) = true:=by kernel_rfl
theorem k0d:(Rows.tabletOnceRow.loops == (f7.params.toList++Rows.tabletOnceSpec.plain.varTypes prog).any (prog.loopsFrom ·)) = true:=by kernel_rfl
theorem j0w:(Rows.tabletOnceRow.wideKeys == (f7.params.toList++Rows.tabletOnceSpec.plain.varTypes prog++f7.resultTypes.toList).any (prog.wideKeysFrom ·)) = true:=by kernel_rfl
theorem l0j:Rows.tabletOnceSpec.vars.all (prog.varReadable ·) = true:=by kernel_rfl
theorem k0G:f7.resultTypes.all (fun t=>prog.readableRec t && decide (t < prog.types.size)) = true:=by kernel_rfl
theorem k0t:(Rows.tabletOnceRow.ifacesOut == f7.resultTypes.toList.any (prog.ifacesRec ·)) = true:=by kernel_rfl
theorem l0l:(Rows.tabletOnceRow.loopsOut == f7.resultTypes.toList.any (prog.loopsFrom ·)) = true:=by kernel_rfl
theorem k0R:(Rows.tabletOnceRow.plainKeys == prog.plainKeys) = true:=by kernel_rfl
theorem l0n:Rows.tabletOnceRow.shortTexts.isNone = true:=by kernel_rfl
theorem j0A:prog.stopsHeard = true:=by kernel_rfl
theorem l0f:prog.mayEnter = true:=by kernel_rfl
theorem j0y:(Rows.tabletOnceRow.lifted == prog.liftsFinal) = true:=by kernel_rfl
theorem j0t:(prog.make == some Rows.tabletOnceRow.make) = true:=by kernel_rfl
theorem k0J:(Rows.tabletOnceRow.kinds == (if Rows.tabletOnceRow.domain.isEmpty then [] else f7.params.toList.map fun t=>match prog.underlying t with | some (.int k)=>some k | _=>none)) = true:=by kernel_rfl
theorem k0w:(Rows.tabletOnceRow.pinned == Rows.tabletOnceRow.pinnedBy) = true:=by kernel_rfl
theorem l0A:(Rows.tabletOnceRow.veiled == (f7.params.toList++Rows.tabletOnceSpec.plain.varTypes prog++f7.resultTypes.toList).any (prog.veiledRec ·)) = true:=by kernel_rfl
theorem l0G:Rows.tabletOnceRow.veiledFits prog f7.params.toList (f7.params.toList++Rows.tabletOnceSpec.plain.varTypes prog++f7.resultTypes.toList) = true:=by kernel_rfl
theorem i0V:joinedFacts prog 7 f7 Rows.tabletOnceSpec Rows.tabletOnceRow = true :=
 u0O l0T Tryz.laidOut l0S m0k m0l m0g m0h m0a l0R j0Z k0H k0z l0r k0N l0Q k0K k0d j0w l0j k0G k0t l0l k0R l0n j0A l0f j0y j0t k0J k0w l0A l0G
end Go.Proofs.YtiagcnfmgigllaaGreat
