/- A part of a proof over the abstract machine. No conditions. -/
import Derived.Test.YtmhbdpgflomihaaGreatSeatA
import Derived.Test.YtmhbdpgflomihaaGreatAb4
/- ClientNumbers: the closed facts of its row, one by one. No conditions. -/
namespace Go.Proofs.YtmhbdpgflomihaaGreat
open Go Go.Ab
set_option maxRecDepth 100000
theorem clientNumbers_k1 : Rows.clientNumbersRow.wf (OpenSpec.ofChange Rows.clientNumbersSpec) = true := by kernel_rfl
theorem clientNumbers_k3 : mapsRowed Tryz.prog = true := by kernel_rfl
theorem clientNumbers_k4 : (Tryz.f3.params.all (Tryz.prog.readableRec ·)) = true := by kernel_rfl
theorem clientNumbers_k5 : namedTie Tryz.prog Rows.clientNumbersRow.named Rows.clientNumbersSpec.vars = true := by kernel_rfl
theorem clientNumbers_k6 : (Rows.clientNumbersRow.stops == []) = true := by kernel_rfl
theorem clientNumbers_k7 : (Tryz.prog.stops == []) = true := by kernel_rfl
theorem clientNumbers_k8 : (Rows.clientNumbersRow.knobs == []) = true := by kernel_rfl
theorem clientNumbers_k9 : (Tryz.prog.stopKnobs == []) = true := by kernel_rfl
theorem clientNumbers_k10 : (Rows.clientNumbersRow.inPlace == Tryz.prog.inPlace 3) = true := by kernel_rfl
theorem clientNumbers_k11 : (Rows.clientNumbersRow.unfollowed == Tryz.prog.unfollowed 3) = true := by kernel_rfl
theorem clientNumbers_k12 : (Rows.clientNumbersRow.recurses == Tryz.prog.recurses 3) = true := by kernel_rfl
theorem clientNumbers_k13 : (Rows.clientNumbersRow.named == Tryz.prog.varsNamed 3) = true := by kernel_rfl
theorem clientNumbers_k14 : (Rows.clientNumbersRow.maps == (Tryz.f3.params.toList ++ Rows.clientNumbersSpec.plain.varTypes Tryz.prog).any (Tryz.prog.mapsRec ·)) = true := by kernel_rfl
theorem clientNumbers_k15 : (Rows.clientNumbersRow.ifaces == (Tryz.f3.params.toList ++ Rows.clientNumbersSpec.plain.varTypes Tryz.prog).any (Tryz.prog.ifacesRec ·)) = true := by kernel_rfl
theorem clientNumbers_k16 : (Rows.clientNumbersRow.mapsOut == Tryz.prog.mapsAmong Tryz.f3.resultTypes.toList) = true := by kernel_rfl
theorem clientNumbers_k17 : (Rows.clientNumbersRow.loops == (Tryz.f3.params.toList ++ Rows.clientNumbersSpec.plain.varTypes Tryz.prog).any (Tryz.prog.loopsFrom ·)) = true := by kernel_rfl
theorem clientNumbers_k17b : (Rows.clientNumbersRow.wideKeys == (Tryz.f3.params.toList ++ Rows.clientNumbersSpec.plain.varTypes Tryz.prog ++ Tryz.f3.resultTypes.toList).any (Tryz.prog.wideKeysFrom ·)) = true := by kernel_rfl
theorem clientNumbers_k18 : Rows.clientNumbersSpec.vars.all (Tryz.prog.varReadable ·) = true := by kernel_rfl
theorem clientNumbers_k19 : Tryz.f3.resultTypes.all (fun t => Tryz.prog.readableRec t && decide (t < Tryz.prog.types.size)) = true := by kernel_rfl
theorem clientNumbers_k20 : (Rows.clientNumbersRow.ifacesOut == Tryz.f3.resultTypes.toList.any (Tryz.prog.ifacesRec ·)) = true := by kernel_rfl
theorem clientNumbers_k21 : (Rows.clientNumbersRow.loopsOut == Tryz.f3.resultTypes.toList.any (Tryz.prog.loopsFrom ·)) = true := by kernel_rfl
theorem clientNumbers_k22 : (Rows.clientNumbersRow.plainKeys == Tryz.prog.plainKeys) = true := by kernel_rfl
theorem clientNumbers_k23 : Rows.clientNumbersRow.shortTexts.isNone = true := by kernel_rfl
theorem clientNumbers_k23b : Tryz.prog.stopsHeard = true := by kernel_rfl
theorem clientNumbers_k24 : Tryz.prog.mayEnter = true := by kernel_rfl
theorem clientNumbers_k24b : (Rows.clientNumbersRow.lifted == Tryz.prog.liftsFinal) = true := by kernel_rfl
theorem clientNumbers_k24c : (Tryz.prog.make == some Rows.clientNumbersRow.make) = true := by kernel_rfl
theorem clientNumbers_k25 : (Rows.clientNumbersRow.kinds == (if Rows.clientNumbersRow.domain.isEmpty then [] else Tryz.f3.params.toList.map fun t => match Tryz.prog.underlying t with | some (.int k) => some k | _ => none)) = true := by kernel_rfl
theorem clientNumbers_k26 : (Rows.clientNumbersRow.pinned == Rows.clientNumbersRow.pinnedBy) = true := by kernel_rfl
theorem clientNumbers_k27 : (Rows.clientNumbersRow.veiled == (Tryz.f3.params.toList ++ Rows.clientNumbersSpec.plain.varTypes Tryz.prog ++ Tryz.f3.resultTypes.toList).any (Tryz.prog.veiledRec ·)) = true := by kernel_rfl
theorem clientNumbers_k28 : Rows.clientNumbersRow.veiledFits Tryz.prog Tryz.f3.params.toList (Tryz.f3.params.toList ++ Rows.clientNumbersSpec.plain.varTypes Tryz.prog ++ Tryz.f3.resultTypes.toList) = true := by kernel_rfl
theorem clientNumbers_facts : joinedFacts Tryz.prog 3 Tryz.f3 Rows.clientNumbersSpec Rows.clientNumbersRow = true :=
  joined_of clientNumbers_k1 Tryz.laidOut clientNumbers_k3 clientNumbers_k4 clientNumbers_k5 clientNumbers_k6 clientNumbers_k7 clientNumbers_k8 clientNumbers_k9 clientNumbers_k10 clientNumbers_k11 clientNumbers_k12 clientNumbers_k13 clientNumbers_k14 clientNumbers_k15 clientNumbers_k16 clientNumbers_k17 clientNumbers_k17b clientNumbers_k18 clientNumbers_k19 clientNumbers_k20 clientNumbers_k21 clientNumbers_k22 clientNumbers_k23 clientNumbers_k23b clientNumbers_k24 clientNumbers_k24b clientNumbers_k24c clientNumbers_k25 clientNumbers_k26 clientNumbers_k27 clientNumbers_k28
end Go.Proofs.YtmhbdpgflomihaaGreat
