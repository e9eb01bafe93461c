/-
  No cell of these rows narrows 'for every input' (looked for: loops, veiled, ifaces, maps, wideKeys, modest, calm, conditions, laid).
  DERIVED. THE GIVEN ROWS OF THIS SEAT. 6 by the template 'for every input the law returns true; each argument reads behind the call as it read before'; 0 by the template 'total and deterministic' (their statements: YtgdonnfchhdflaaTotals.lean).
  GIVEN WITH THE SEED: the statements are not yours to turn. If you find one false, say at which input.
  Laid BY PROGRAM, IN A SANDBOX (cutbox-rows.mjs): the forced cells as the released guide's own fill.sh prints them over the translation c62814302a99faf4… (all of the seat's roots in one cut). By AI agents, Wed Nov 11 2026. No macro, syntax, notation, axiom, sorry.
-/
import Derived.Test.YtgdonnfchhdflaaChecked
import GoSem.Claim
import GoSem.ClaimJoined
import GoSem.ClaimMapViews
import Derived.JoinedTies
import Derived.KernelRfl
namespace Go.Proofs.Ytgdonnfchhdflaa
/- THE CELL 'sum', in the pinned program and in every row, IS THE sha256 OF THE DUMP (.gsa) THAT YtgdonnfchhdflaaProg.lean LOADS. Nothing in Lean hashes anything: it is a label: what it is worth is what the hold of that sum in a sandbox is worth. -/
noncomputable def Try.pinned : Pinned := { name := "ytgdonnfchhdflaa", sum := "c62814302a99faf45e32388961aa0a53c12fcd7cdf02934601675acaf1752488", checked := Try.checked }
namespace Rows
def none {H : Type} : Left H := { results := [], args := [] }

/-- 'wardmotelaw1.NumEdges': WHATEVER THE INPUT: true; the input reads as it did. -/
def numEdgesSpec : ChangeSpec := { name := "numEdges", fn := fun _ => fun
  | [d1, d2] => { results := [.lit (.bool true)], args := [d1, d2] }
  | _ => none }
def numEdgesRow : OpenClaim := { program := "ytgdonnfchhdflaa", sum := "c62814302a99faf45e32388961aa0a53c12fcd7cdf02934601675acaf1752488", func := "wardmote/wardmotelaw1.NumEdges", spec := "numEdges", inPlace := ["math.Float64frombits", "math.Float64bits"], apart := false }
def NumEdgesSaid : Prop := numEdgesRow.holds Try.pinned (OpenSpec.ofChange numEdgesSpec)

/-- ITS FALSE NEIGHBOUR: 'it returns false'. Refute it at one input. -/
def numEdgesWrong : ChangeSpec := { name := "numEdges", fn := fun _ => fun
  | [d1, d2] => { results := [.lit (.bool false)], args := [d1, d2] }
  | _ => none }
def NumEdgesWrongFalsely : Prop := numEdgesRow.holds Try.pinned (OpenSpec.ofChange numEdgesWrong)

/-- 'wardmotelaw1.NumSums': WHATEVER THE INPUT: true; the input reads as it did. -/
def numSumsSpec : ChangeSpec := { name := "numSums", fn := fun _ => fun
  | [d1, d2, d3, d4] => { results := [.lit (.bool true)], args := [d1, d2, d3, d4] }
  | _ => none }
def numSumsRow : OpenClaim := { program := "ytgdonnfchhdflaa", sum := "c62814302a99faf45e32388961aa0a53c12fcd7cdf02934601675acaf1752488", func := "wardmote/wardmotelaw1.NumSums", spec := "numSums", inPlace := ["math.Float64frombits", "math.Float64bits"], apart := false }
def NumSumsSaid : Prop := numSumsRow.holds Try.pinned (OpenSpec.ofChange numSumsSpec)

/-- ITS FALSE NEIGHBOUR: 'it returns false'. Refute it at one input. -/
def numSumsWrong : ChangeSpec := { name := "numSums", fn := fun _ => fun
  | [d1, d2, d3, d4] => { results := [.lit (.bool false)], args := [d1, d2, d3, d4] }
  | _ => none }
def NumSumsWrongFalsely : Prop := numSumsRow.holds Try.pinned (OpenSpec.ofChange numSumsWrong)

/-- 'wardmotelaw1.NumOrders': WHATEVER THE INPUT: true; the input reads as it did. -/
def numOrdersSpec : ChangeSpec := { name := "numOrders", fn := fun _ => fun
  | [d1, d2, d3, d4, d5] => { results := [.lit (.bool true)], args := [d1, d2, d3, d4, d5] }
  | _ => none }
def numOrdersRow : OpenClaim := { program := "ytgdonnfchhdflaa", sum := "c62814302a99faf45e32388961aa0a53c12fcd7cdf02934601675acaf1752488", func := "wardmote/wardmotelaw1.NumOrders", spec := "numOrders", inPlace := ["math.Float64frombits", "math.Float64bits"], apart := false }
def NumOrdersSaid : Prop := numOrdersRow.holds Try.pinned (OpenSpec.ofChange numOrdersSpec)

/-- ITS FALSE NEIGHBOUR: 'it returns false'. Refute it at one input. -/
def numOrdersWrong : ChangeSpec := { name := "numOrders", fn := fun _ => fun
  | [d1, d2, d3, d4, d5] => { results := [.lit (.bool false)], args := [d1, d2, d3, d4, d5] }
  | _ => none }
def NumOrdersWrongFalsely : Prop := numOrdersRow.holds Try.pinned (OpenSpec.ofChange numOrdersWrong)

/-- 'wardmotelaw1.NumTotals': WHATEVER THE INPUT: true; the input reads as it did. -/
def numTotalsSpec : ChangeSpec := { name := "numTotals", fn := fun _ => fun
  | [d1, d2] => { results := [.lit (.bool true)], args := [d1, d2] }
  | _ => none }
def numTotalsRow : OpenClaim := { program := "ytgdonnfchhdflaa", sum := "c62814302a99faf45e32388961aa0a53c12fcd7cdf02934601675acaf1752488", func := "wardmote/wardmotelaw1.NumTotals", spec := "numTotals", inPlace := ["math.Float64frombits", "math.Float64bits"], apart := false }
def NumTotalsSaid : Prop := numTotalsRow.holds Try.pinned (OpenSpec.ofChange numTotalsSpec)

/-- ITS FALSE NEIGHBOUR: 'it returns false'. Refute it at one input. -/
def numTotalsWrong : ChangeSpec := { name := "numTotals", fn := fun _ => fun
  | [d1, d2] => { results := [.lit (.bool false)], args := [d1, d2] }
  | _ => none }
def NumTotalsWrongFalsely : Prop := numTotalsRow.holds Try.pinned (OpenSpec.ofChange numTotalsWrong)

/-- 'wardmotelaw1.NumNumbers': WHATEVER THE INPUT: true; the input reads as it did. -/
def numNumbersSpec : ChangeSpec := { name := "numNumbers", fn := fun _ => fun
  | [] => { results := [.lit (.bool true)], args := [] }
  | _ => none }
def numNumbersRow : OpenClaim := { program := "ytgdonnfchhdflaa", sum := "c62814302a99faf45e32388961aa0a53c12fcd7cdf02934601675acaf1752488", func := "wardmote/wardmotelaw1.NumNumbers", spec := "numNumbers", inPlace := ["math.Float64bits", "math.Float64frombits"], apart := false }
def NumNumbersSaid : Prop := numNumbersRow.holds Try.pinned (OpenSpec.ofChange numNumbersSpec)

/-- ITS FALSE NEIGHBOUR: 'it returns false'. Refute it at one input. -/
def numNumbersWrong : ChangeSpec := { name := "numNumbers", fn := fun _ => fun
  | [] => { results := [.lit (.bool false)], args := [] }
  | _ => none }
def NumNumbersWrongFalsely : Prop := numNumbersRow.holds Try.pinned (OpenSpec.ofChange numNumbersWrong)

/-- 'wardmotelaw1.NumTells': WHATEVER THE INPUT: true; the input reads as it did. -/
def numTellsSpec : ChangeSpec := { name := "numTells", fn := fun _ => fun
  | [d1, d2, d3, d4, d5, d6, d7] => { results := [.lit (.bool true)], args := [d1, d2, d3, d4, d5, d6, d7] }
  | _ => none }
def numTellsRow : OpenClaim := { program := "ytgdonnfchhdflaa", sum := "c62814302a99faf45e32388961aa0a53c12fcd7cdf02934601675acaf1752488", func := "wardmote/wardmotelaw1.NumTells", spec := "numTells", inPlace := ["math.Float64bits", "math.Float64frombits"], apart := false }
def NumTellsSaid : Prop := numTellsRow.holds Try.pinned (OpenSpec.ofChange numTellsSpec)

/-- ITS FALSE NEIGHBOUR: 'it returns false'. Refute it at one input. -/
def numTellsWrong : ChangeSpec := { name := "numTells", fn := fun _ => fun
  | [d1, d2, d3, d4, d5, d6, d7] => { results := [.lit (.bool false)], args := [d1, d2, d3, d4, d5, d6, d7] }
  | _ => none }
def NumTellsWrongFalsely : Prop := numTellsRow.holds Try.pinned (OpenSpec.ofChange numTellsWrong)

/- THE SECOND FORM. 'bulk': how many values and letters a reading holds, each counted each time it is reached (what is shared counts as often as it is met; a slice's spare places count too). A statement '..UptoSaid' is the law's where the arguments, and the package variables that the reading takes, are together of bulk at most 1048576: NARROWER than '..Said'. Prove '..Said' where nothing that the law and all that it calls make is longer than what came in: it says more and counts as full. Else prove '..UptoSaid'. A law counts once. -/
mutual
def uptoBulk {H : Type} : DataW H → Nat
  | .lit (.string bytes) => bytes.length + 1
  | .lit _ => 1
  | .nil => 1
  | .ptr d => uptoBulk d + 1
  | .slice elems spare => uptoBulkAll elems + uptoBulkAll spare + 1
  | .agg parts => uptoBulkAll parts + 1
  | .iface _ d => uptoBulk d + 1
  | .map entries => uptoBulkEntries entries + 1
  | .held _ => 1
def uptoBulkAll {H : Type} : List (DataW H) → Nat
  | [] => 0
  | d :: r => uptoBulk d + uptoBulkAll r
def uptoBulkEntries {H : Type} : List (Lit × DataW H) → Nat
  | [] => 0
  | x :: r => uptoBulkEntry x + uptoBulkEntries r
def uptoBulkEntry {H : Type} : Lit × DataW H → Nat
  | (.string bytes, d) => bytes.length + uptoBulk d + 1
  | (_, d) => uptoBulk d + 1
 end
def uptoSmall : (H : Type) → List (DataW H) → Bool := fun _ ds => decide (uptoBulkAll ds ≤ 1048576)
def OpenSpec.upto (s : _root_.Go.ChangeSpec) : _root_.Go.OpenSpec := { _root_.Go.OpenSpec.ofChange s with cond := some uptoSmall }

/-- 'wardmotelaw1.NumEdges', WHERE WHAT IT READS IS OF BULK AT MOST 1048576: true; the input reads as it did. -/
def numEdgesUptoRow : OpenClaim := { program := "ytgdonnfchhdflaa", sum := "c62814302a99faf45e32388961aa0a53c12fcd7cdf02934601675acaf1752488", func := "wardmote/wardmotelaw1.NumEdges", spec := "numEdges", inPlace := ["math.Float64frombits", "math.Float64bits"], apart := false, narrowed := true }
def NumEdgesUptoSaid : Prop := numEdgesUptoRow.holds Try.pinned (OpenSpec.upto numEdgesSpec)

/-- 'wardmotelaw1.NumSums', WHERE WHAT IT READS IS OF BULK AT MOST 1048576: true; the input reads as it did. -/
def numSumsUptoRow : OpenClaim := { program := "ytgdonnfchhdflaa", sum := "c62814302a99faf45e32388961aa0a53c12fcd7cdf02934601675acaf1752488", func := "wardmote/wardmotelaw1.NumSums", spec := "numSums", inPlace := ["math.Float64frombits", "math.Float64bits"], apart := false, narrowed := true }
def NumSumsUptoSaid : Prop := numSumsUptoRow.holds Try.pinned (OpenSpec.upto numSumsSpec)

/-- 'wardmotelaw1.NumOrders', WHERE WHAT IT READS IS OF BULK AT MOST 1048576: true; the input reads as it did. -/
def numOrdersUptoRow : OpenClaim := { program := "ytgdonnfchhdflaa", sum := "c62814302a99faf45e32388961aa0a53c12fcd7cdf02934601675acaf1752488", func := "wardmote/wardmotelaw1.NumOrders", spec := "numOrders", inPlace := ["math.Float64frombits", "math.Float64bits"], apart := false, narrowed := true }
def NumOrdersUptoSaid : Prop := numOrdersUptoRow.holds Try.pinned (OpenSpec.upto numOrdersSpec)

/-- 'wardmotelaw1.NumTotals', WHERE WHAT IT READS IS OF BULK AT MOST 1048576: true; the input reads as it did. -/
def numTotalsUptoRow : OpenClaim := { program := "ytgdonnfchhdflaa", sum := "c62814302a99faf45e32388961aa0a53c12fcd7cdf02934601675acaf1752488", func := "wardmote/wardmotelaw1.NumTotals", spec := "numTotals", inPlace := ["math.Float64frombits", "math.Float64bits"], apart := false, narrowed := true }
def NumTotalsUptoSaid : Prop := numTotalsUptoRow.holds Try.pinned (OpenSpec.upto numTotalsSpec)

/-- 'wardmotelaw1.NumNumbers', WHERE WHAT IT READS IS OF BULK AT MOST 1048576: true; the input reads as it did. -/
def numNumbersUptoRow : OpenClaim := { program := "ytgdonnfchhdflaa", sum := "c62814302a99faf45e32388961aa0a53c12fcd7cdf02934601675acaf1752488", func := "wardmote/wardmotelaw1.NumNumbers", spec := "numNumbers", inPlace := ["math.Float64bits", "math.Float64frombits"], apart := false, narrowed := true }
def NumNumbersUptoSaid : Prop := numNumbersUptoRow.holds Try.pinned (OpenSpec.upto numNumbersSpec)

/-- 'wardmotelaw1.NumTells', WHERE WHAT IT READS IS OF BULK AT MOST 1048576: true; the input reads as it did. -/
def numTellsUptoRow : OpenClaim := { program := "ytgdonnfchhdflaa", sum := "c62814302a99faf45e32388961aa0a53c12fcd7cdf02934601675acaf1752488", func := "wardmote/wardmotelaw1.NumTells", spec := "numTells", inPlace := ["math.Float64bits", "math.Float64frombits"], apart := false, narrowed := true }
def NumTellsUptoSaid : Prop := numTellsUptoRow.holds Try.pinned (OpenSpec.upto numTellsSpec)

end Rows
end Go.Proofs.Ytgdonnfchhdflaa
