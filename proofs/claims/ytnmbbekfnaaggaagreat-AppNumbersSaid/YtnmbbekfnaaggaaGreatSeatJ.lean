/- A part of a proof over the abstract machine. No conditions. -/
import Derived.Test.YtnmbbekfnaaggaaGreatSeatA
import Derived.Test.YtnmbbekfnaaggaaGreatAb4
/- AppNumbers: the closed facts of its row, one by one. No conditions. -/
namespace Go.Proofs.YtnmbbekfnaaggaaGreat
open Go Go.Ab
set_option maxRecDepth 100000
theorem appNumbers_k1 : Rows.appNumbersRow.wf (OpenSpec.ofChange Rows.appNumbersSpec) = true := by kernel_rfl
theorem appNumbers_k3 : mapsRowed Tryz.prog = true := by kernel_rfl
theorem appNumbers_k4 : (Tryz.f3.params.all (Tryz.prog.readableRec ·)) = true := by kernel_rfl
theorem appNumbers_k5 : namedTie Tryz.prog Rows.appNumbersRow.named Rows.appNumbersSpec.vars = true := by kernel_rfl
theorem appNumbers_k6 : (Rows.appNumbersRow.stops == []) = true := by kernel_rfl
theorem appNumbers_k7 : (Tryz.prog.stops == []) = true := by kernel_rfl
theorem appNumbers_k8 : (Rows.appNumbersRow.knobs == []) = true := by kernel_rfl
theorem appNumbers_k9 : (Tryz.prog.stopKnobs == []) = true := by kernel_rfl
theorem appNumbers_k10 : (Rows.appNumbersRow.inPlace == Tryz.prog.inPlace 3) = true := by kernel_rfl
theorem appNumbers_k11 : (Rows.appNumbersRow.unfollowed == Tryz.prog.unfollowed 3) = true := by kernel_rfl
theorem appNumbers_k12 : (Rows.appNumbersRow.recurses == Tryz.prog.recurses 3) = true := by kernel_rfl
theorem appNumbers_k13 : (Rows.appNumbersRow.named == Tryz.prog.varsNamed 3) = true := by kernel_rfl
theorem appNumbers_k14 : (Rows.appNumbersRow.maps == (Tryz.f3.params.toList ++ Rows.appNumbersSpec.plain.varTypes Tryz.prog).any (Tryz.prog.mapsRec ·)) = true := by kernel_rfl
theorem appNumbers_k15 : (Rows.appNumbersRow.ifaces == (Tryz.f3.params.toList ++ Rows.appNumbersSpec.plain.varTypes Tryz.prog).any (Tryz.prog.ifacesRec ·)) = true := by kernel_rfl
theorem appNumbers_k16 : (Rows.appNumbersRow.mapsOut == Tryz.prog.mapsAmong Tryz.f3.resultTypes.toList) = true := by kernel_rfl
theorem appNumbers_k17 : (Rows.appNumbersRow.loops == (Tryz.f3.params.toList ++ Rows.appNumbersSpec.plain.varTypes Tryz.prog).any (Tryz.prog.loopsFrom ·)) = true := by kernel_rfl
theorem appNumbers_k17b : (Rows.appNumbersRow.wideKeys == (Tryz.f3.params.toList ++ Rows.appNumbersSpec.plain.varTypes Tryz.prog ++ Tryz.f3.resultTypes.toList).any (Tryz.prog.wideKeysFrom ·)) = true := by kernel_rfl
theorem appNumbers_k18 : Rows.appNumbersSpec.vars.all (Tryz.prog.varReadable ·) = true := by kernel_rfl
theorem appNumbers_k19 : Tryz.f3.resultTypes.all (fun t => Tryz.prog.readableRec t && decide (t < Tryz.prog.types.size)) = true := by kernel_rfl
theorem appNumbers_k20 : (Rows.appNumbersRow.ifacesOut == Tryz.f3.resultTypes.toList.any (Tryz.prog.ifacesRec ·)) = true := by kernel_rfl
theorem appNumbers_k21 : (Rows.appNumbersRow.loopsOut == Tryz.f3.resultTypes.toList.any (Tryz.prog.loopsFrom ·)) = true := by kernel_rfl
theorem appNumbers_k22 : (Rows.appNumbersRow.plainKeys == Tryz.prog.plainKeys) = true := by kernel_rfl
theorem appNumbers_k23 : Rows.appNumbersRow.shortTexts.isNone = true := by kernel_rfl
theorem appNumbers_k23b : Tryz.prog.stopsHeard = true := by kernel_rfl
theorem appNumbers_k24 : Tryz.prog.mayEnter = true := by kernel_rfl
theorem appNumbers_k24b : (Rows.appNumbersRow.lifted == Tryz.prog.liftsFinal) = true := by kernel_rfl
theorem appNumbers_k24c : (Tryz.prog.make == some Rows.appNumbersRow.make) = true := by kernel_rfl
theorem appNumbers_k25 : (Rows.appNumbersRow.kinds == (if Rows.appNumbersRow.domain.isEmpty then [] else Tryz.f3.params.toList.map fun t => match Tryz.prog.underlying t with | some (.int k) => some k | _ => none)) = true := by kernel_rfl
theorem appNumbers_k26 : (Rows.appNumbersRow.pinned == Rows.appNumbersRow.pinnedBy) = true := by kernel_rfl
theorem appNumbers_k27 : (Rows.appNumbersRow.veiled == (Tryz.f3.params.toList ++ Rows.appNumbersSpec.plain.varTypes Tryz.prog ++ Tryz.f3.resultTypes.toList).any (Tryz.prog.veiledRec ·)) = true := by kernel_rfl
theorem appNumbers_k28 : Rows.appNumbersRow.veiledFits Tryz.prog Tryz.f3.params.toList (Tryz.f3.params.toList ++ Rows.appNumbersSpec.plain.varTypes Tryz.prog ++ Tryz.f3.resultTypes.toList) = true := by kernel_rfl
theorem appNumbers_facts : joinedFacts Tryz.prog 3 Tryz.f3 Rows.appNumbersSpec Rows.appNumbersRow = true :=
  joined_of appNumbers_k1 Tryz.laidOut appNumbers_k3 appNumbers_k4 appNumbers_k5 appNumbers_k6 appNumbers_k7 appNumbers_k8 appNumbers_k9 appNumbers_k10 appNumbers_k11 appNumbers_k12 appNumbers_k13 appNumbers_k14 appNumbers_k15 appNumbers_k16 appNumbers_k17 appNumbers_k17b appNumbers_k18 appNumbers_k19 appNumbers_k20 appNumbers_k21 appNumbers_k22 appNumbers_k23 appNumbers_k23b appNumbers_k24 appNumbers_k24b appNumbers_k24c appNumbers_k25 appNumbers_k26 appNumbers_k27 appNumbers_k28
end Go.Proofs.YtnmbbekfnaaggaaGreat
