/- A part of a proof over the abstract machine. No conditions. -/
import Derived.Test.YtiagcnfmgigllaaGreatSeatK
import Derived.Test.YtiagcnfmgigllaaGreatAb4
namespace Go.Proofs.YtiagcnfmgigllaaGreat
open Go Go.Ab Go.Proofs.Tryz
set_option maxRecDepth 100000
theorem j0C:Rows.tabletMovesRow.wf (OpenSpec.ofChange Rows.tabletMovesSpec) = true:=by kernel_rfl
theorem k0c:mapsRowed prog = true:=by kernel_rfl
theorem k0J:(Tryz.f3.params.all (prog.readableRec ·)) = true:=by kernel_rfl
theorem k0w:namedTie prog Rows.tabletMovesRow.named Rows.tabletMovesSpec.vars = true:=by kernel_rfl
theorem k0a:(Rows.tabletMovesRow.stops == []) = true:=by kernel_rfl
theorem k0e:(prog.stops == []) = true:=by kernel_rfl
theorem k0P:(Rows.tabletMovesRow.knobs == []) = true:=by kernel_rfl
theorem k0f:(prog.stopKnobs == []) = true:=by kernel_rfl
theorem i0I:(Rows.tabletMovesRow.inPlace == prog.inPlace 3) = true:=by kernel_rfl
theorem i0R:(Rows.tabletMovesRow.unfollowed == prog.unfollowed 3) = true:=by kernel_rfl
theorem i0L:(Rows.tabletMovesRow.recurses == prog.recurses 3) = true:=by kernel_rfl
theorem i0U:(Rows.tabletMovesRow.named == prog.varsNamed 3) = true:=by kernel_rfl
theorem i0E:(Rows.tabletMovesRow.maps == (Tryz.f3.params.toList++Rows.tabletMovesSpec.plain.varTypes prog).any (prog.mapsRec ·)) = true:=by kernel_rfl
theorem i0D:(Rows.tabletMovesRow.ifaces == (Tryz.f3.params.toList++Rows.tabletMovesSpec.plain.varTypes prog).any (prog.ifacesRec ·)) = true:=by kernel_rfl
theorem i0J:(Rows.tabletMovesRow.mapsOut == prog.mapsAmong Tryz.f3.resultTypes.toList) = true:=by kernel_rfl
theorem i0T:(Rows.tabletMovesRow.loops == (Tryz.f3.params.toList++Rows.tabletMovesSpec.plain.varTypes prog).any (prog.loopsFrom ·)) = true:=by kernel_rfl
theorem i0b:(Rows.tabletMovesRow.wideKeys == (Tryz.f3.params.toList++Rows.tabletMovesSpec.plain.varTypes prog++Tryz.f3.resultTypes.toList).any (prog.wideKeysFrom ·)) = true:=by kernel_rfl
theorem i0W:Rows.tabletMovesSpec.vars.all (prog.varReadable ·) = true:=by kernel_rfl
theorem i0O:Tryz.f3.resultTypes.all (fun t=>prog.readableRec t && decide (t < prog.types.size)) = true:=by kernel_rfl
theorem i0H:(Rows.tabletMovesRow.ifacesOut == Tryz.f3.resultTypes.toList.any (prog.ifacesRec ·)) = true:=by kernel_rfl
theorem i0G:(Rows.tabletMovesRow.loopsOut == Tryz.f3.resultTypes.toList.any (prog.loopsFrom ·)) = true:=by kernel_rfl
theorem i0S:(Rows.tabletMovesRow.plainKeys == prog.plainKeys) = true:=by kernel_rfl
theorem i0M:Rows.tabletMovesRow.shortTexts.isNone = true:=by kernel_rfl
theorem h0N:prog.stopsHeard = true:=by kernel_rfl
theorem i0X:prog.mayEnter = true:=by kernel_rfl
theorem i0e:(Rows.tabletMovesRow.lifted == prog.liftsFinal) = true:=by kernel_rfl
theorem h0W:(prog.make == some Rows.tabletMovesRow.make) = true:=by kernel_rfl
theorem i0P:(Rows.tabletMovesRow.kinds == (if Rows.tabletMovesRow.domain.isEmpty then [] else Tryz.f3.params.toList.map fun t=>match prog.underlying t with | some (.int k)=>some k | _=>none)) = true:=by kernel_rfl
theorem i0Q:(Rows.tabletMovesRow.pinned == Rows.tabletMovesRow.pinnedBy) = true:=by kernel_rfl
theorem i0N:(Rows.tabletMovesRow.veiled == (Tryz.f3.params.toList++Rows.tabletMovesSpec.plain.varTypes prog++Tryz.f3.resultTypes.toList).any (prog.veiledRec ·)) = true:=by kernel_rfl
theorem i0V:Rows.tabletMovesRow.veiledFits prog Tryz.f3.params.toList (Tryz.f3.params.toList++Rows.tabletMovesSpec.plain.varTypes prog++Tryz.f3.resultTypes.toList) = true:=by kernel_rfl
theorem h0g:joinedFacts prog 3 Tryz.f3 Rows.tabletMovesSpec Rows.tabletMovesRow = true :=
 u0e j0C Tryz.laidOut k0c k0J k0w k0a k0e k0P k0f i0I i0R i0L i0U i0E i0D i0J i0T i0b i0W i0O i0H i0G i0S i0M h0N i0X i0e h0W i0P i0Q i0N i0V
end Go.Proofs.YtiagcnfmgigllaaGreat
