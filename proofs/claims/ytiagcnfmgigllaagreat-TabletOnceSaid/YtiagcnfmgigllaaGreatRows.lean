/-
  No cell of these rows narrows 'for every input' (looked for: loops, veiled, ifaces, maps, wideKeys, modest, calm, conditions, laid).
  DERIVED. THE GIVEN ROWS OF THIS SEAT. 5 by the template 'for every input the law returns true; each argument reads behind the call as it read before'; 0 by the template 'total and deterministic' (their statements: YtiagcnfmgigllaaGreatTotals.lean).
  GIVEN WITH THE SEED: the statements are not yours to turn. If you find one false, say at which input.
  Laid BY PROGRAM, IN A SANDBOX (cutbox-rows.mjs): the forced cells as the released guide's own fill.sh prints them over the translation dbe13664437ca634… (all of the seat's roots in one cut). By AI agents, Wed Nov 11 2026. No macro, syntax, notation, axiom, sorry.
-/
import Derived.Test.YtiagcnfmgigllaaGreatChecked
import GoSem.Claim
import GoSem.ClaimJoined
import GoSem.ClaimMapViews
import Derived.JoinedTies
import Derived.KernelRfl
namespace Go.Proofs.YtiagcnfmgigllaaGreat
/- THE CELL 'sum', in the pinned program and in every row, IS THE sha256 OF THE DUMP (.gsa) THAT YtiagcnfmgigllaaGreatProg.lean LOADS. Nothing in Lean hashes anything: it is a label: what it is worth is what the hold of that sum in a sandbox is worth. -/
noncomputable def Tryz.pinned : Pinned := { name := "ytiagcnfmgigllaagreat", sum := "dbe13664437ca634d4941cdc99b1ffd4c6bdb0367de36b6a2d0106206c7e6795", checked := Tryz.checked }
namespace Rows
def none {H : Type} : Left H := { results := [], args := [] }

/-- 'wardmotelaw10.TabletMoves': WHATEVER THE INPUT: true; the input reads as it did. -/
def tabletMovesSpec : ChangeSpec := { name := "tabletMoves", fn := fun _ => fun
  | [d1, d2] => { results := [.lit (.bool true)], args := [d1, d2] }
  | _ => none }
def tabletMovesRow : OpenClaim := { program := "ytiagcnfmgigllaagreat", sum := "dbe13664437ca634d4941cdc99b1ffd4c6bdb0367de36b6a2d0106206c7e6795", func := "wardmote/wardmotelaw10.TabletMoves", spec := "tabletMoves", inPlace := ["math.Float64bits", "math.Float64frombits", "internal/bytealg.Compare", "slices.overlaps[wardmote/api.Column]", "slices.overlaps[wardmote/api.Version]", "slices.overlaps[wardmote/api.Named]", "slices.overlaps[wardmote/once.told]"], unfollowed := true, recurses := true, apart := false }
def TabletMovesSaid : Prop := tabletMovesRow.holds Tryz.pinned (OpenSpec.ofChange tabletMovesSpec)

/-- ITS FALSE NEIGHBOUR: 'it returns false'. Refute it at one input. -/
def tabletMovesWrong : ChangeSpec := { name := "tabletMoves", fn := fun _ => fun
  | [d1, d2] => { results := [.lit (.bool false)], args := [d1, d2] }
  | _ => none }
def TabletMovesWrongFalsely : Prop := tabletMovesRow.holds Tryz.pinned (OpenSpec.ofChange tabletMovesWrong)

/-- 'wardmotelaw10.TabletFreezes': WHATEVER THE INPUT: true; the input reads as it did. -/
def tabletFreezesSpec : ChangeSpec := { name := "tabletFreezes", fn := fun _ => fun
  | [d1, d2] => { results := [.lit (.bool true)], args := [d1, d2] }
  | _ => none }
def tabletFreezesRow : OpenClaim := { program := "ytiagcnfmgigllaagreat", sum := "dbe13664437ca634d4941cdc99b1ffd4c6bdb0367de36b6a2d0106206c7e6795", func := "wardmote/wardmotelaw10.TabletFreezes", spec := "tabletFreezes", inPlace := ["math.Float64bits", "math.Float64frombits", "internal/bytealg.Compare", "slices.overlaps[wardmote/api.Column]", "slices.overlaps[wardmote/api.Version]", "slices.overlaps[wardmote/api.Named]", "slices.overlaps[wardmote/once.told]"], unfollowed := true, recurses := true, apart := false }
def TabletFreezesSaid : Prop := tabletFreezesRow.holds Tryz.pinned (OpenSpec.ofChange tabletFreezesSpec)

/-- ITS FALSE NEIGHBOUR: 'it returns false'. Refute it at one input. -/
def tabletFreezesWrong : ChangeSpec := { name := "tabletFreezes", fn := fun _ => fun
  | [d1, d2] => { results := [.lit (.bool false)], args := [d1, d2] }
  | _ => none }
def TabletFreezesWrongFalsely : Prop := tabletFreezesRow.holds Tryz.pinned (OpenSpec.ofChange tabletFreezesWrong)

/-- 'wardmotelaw10.TabletSplits': WHATEVER THE INPUT: true; the input reads as it did. -/
def tabletSplitsSpec : ChangeSpec := { name := "tabletSplits", fn := fun _ => fun
  | [d1, d2] => { results := [.lit (.bool true)], args := [d1, d2] }
  | _ => none }
def tabletSplitsRow : OpenClaim := { program := "ytiagcnfmgigllaagreat", sum := "dbe13664437ca634d4941cdc99b1ffd4c6bdb0367de36b6a2d0106206c7e6795", func := "wardmote/wardmotelaw10.TabletSplits", spec := "tabletSplits", inPlace := ["math.Float64bits", "math.Float64frombits", "internal/bytealg.Compare", "slices.overlaps[wardmote/api.Column]", "slices.overlaps[wardmote/api.Version]", "slices.overlaps[wardmote/api.Named]", "slices.overlaps[wardmote/once.told]"], unfollowed := true, recurses := true, apart := false }
def TabletSplitsSaid : Prop := tabletSplitsRow.holds Tryz.pinned (OpenSpec.ofChange tabletSplitsSpec)

/-- ITS FALSE NEIGHBOUR: 'it returns false'. Refute it at one input. -/
def tabletSplitsWrong : ChangeSpec := { name := "tabletSplits", fn := fun _ => fun
  | [d1, d2] => { results := [.lit (.bool false)], args := [d1, d2] }
  | _ => none }
def TabletSplitsWrongFalsely : Prop := tabletSplitsRow.holds Tryz.pinned (OpenSpec.ofChange tabletSplitsWrong)

/-- 'wardmotelaw10.TabletApart': WHATEVER THE INPUT: true; the input reads as it did. -/
def tabletApartSpec : ChangeSpec := { name := "tabletApart", fn := fun _ => fun
  | [d] => { results := [.lit (.bool true)], args := [d] }
  | _ => none }
def tabletApartRow : OpenClaim := { program := "ytiagcnfmgigllaagreat", sum := "dbe13664437ca634d4941cdc99b1ffd4c6bdb0367de36b6a2d0106206c7e6795", func := "wardmote/wardmotelaw10.TabletApart", spec := "tabletApart", inPlace := ["math.Float64bits", "math.Float64frombits", "internal/bytealg.Compare", "slices.overlaps[wardmote/api.Column]", "slices.overlaps[wardmote/api.Version]", "slices.overlaps[wardmote/api.Named]", "slices.overlaps[wardmote/once.told]"], unfollowed := true, recurses := true, apart := false }
def TabletApartSaid : Prop := tabletApartRow.holds Tryz.pinned (OpenSpec.ofChange tabletApartSpec)

/-- ITS FALSE NEIGHBOUR: 'it returns false'. Refute it at one input. -/
def tabletApartWrong : ChangeSpec := { name := "tabletApart", fn := fun _ => fun
  | [d] => { results := [.lit (.bool false)], args := [d] }
  | _ => none }
def TabletApartWrongFalsely : Prop := tabletApartRow.holds Tryz.pinned (OpenSpec.ofChange tabletApartWrong)

/-- 'wardmotelaw10.TabletOnce': WHATEVER THE INPUT: true; the input reads as it did. -/
def tabletOnceSpec : ChangeSpec := { name := "tabletOnce", fn := fun _ => fun
  | [d1, d2] => { results := [.lit (.bool true)], args := [d1, d2] }
  | _ => none }
def tabletOnceRow : OpenClaim := { program := "ytiagcnfmgigllaagreat", sum := "dbe13664437ca634d4941cdc99b1ffd4c6bdb0367de36b6a2d0106206c7e6795", func := "wardmote/wardmotelaw10.TabletOnce", spec := "tabletOnce", inPlace := ["math.Float64frombits", "math.Float64bits", "internal/bytealg.Compare", "slices.overlaps[wardmote/api.Column]", "slices.overlaps[wardmote/api.Version]", "slices.overlaps[wardmote/api.Named]", "slices.overlaps[wardmote/once.told]"], unfollowed := true, recurses := true, apart := false }
def TabletOnceSaid : Prop := tabletOnceRow.holds Tryz.pinned (OpenSpec.ofChange tabletOnceSpec)

/-- ITS FALSE NEIGHBOUR: 'it returns false'. Refute it at one input. -/
def tabletOnceWrong : ChangeSpec := { name := "tabletOnce", fn := fun _ => fun
  | [d1, d2] => { results := [.lit (.bool false)], args := [d1, d2] }
  | _ => none }
def TabletOnceWrongFalsely : Prop := tabletOnceRow.holds Tryz.pinned (OpenSpec.ofChange tabletOnceWrong)

/- THE SECOND FORM. 'bulk': how many values and letters a reading holds, each counted each time it is reached (what is shared counts as often as it is met; a slice's spare places count too). A statement '..UptoSaid' is the law's where the arguments, and the package variables that the reading takes, are together of bulk at most 1048576: NARROWER than '..Said'. Prove '..Said' where nothing that the law and all that it calls make is longer than what came in: it says more and counts as full. Else prove '..UptoSaid'. A law counts once. -/
mutual
def uptoBulk {H : Type} : DataW H → Nat
  | .lit (.string bytes) => bytes.length + 1
  | .lit _ => 1
  | .nil => 1
  | .ptr d => uptoBulk d + 1
  | .slice elems spare => uptoBulkAll elems + uptoBulkAll spare + 1
  | .agg parts => uptoBulkAll parts + 1
  | .iface _ d => uptoBulk d + 1
  | .map entries => uptoBulkEntries entries + 1
  | .held _ => 1
def uptoBulkAll {H : Type} : List (DataW H) → Nat
  | [] => 0
  | d :: r => uptoBulk d + uptoBulkAll r
def uptoBulkEntries {H : Type} : List (Lit × DataW H) → Nat
  | [] => 0
  | x :: r => uptoBulkEntry x + uptoBulkEntries r
def uptoBulkEntry {H : Type} : Lit × DataW H → Nat
  | (.string bytes, d) => bytes.length + uptoBulk d + 1
  | (_, d) => uptoBulk d + 1
 end
def uptoSmall : (H : Type) → List (DataW H) → Bool := fun _ ds => decide (uptoBulkAll ds ≤ 1048576)
def OpenSpec.upto (s : _root_.Go.ChangeSpec) : _root_.Go.OpenSpec := { _root_.Go.OpenSpec.ofChange s with cond := some uptoSmall }

/-- 'wardmotelaw10.TabletMoves', WHERE WHAT IT READS IS OF BULK AT MOST 1048576: true; the input reads as it did. -/
def tabletMovesUptoRow : OpenClaim := { program := "ytiagcnfmgigllaagreat", sum := "dbe13664437ca634d4941cdc99b1ffd4c6bdb0367de36b6a2d0106206c7e6795", func := "wardmote/wardmotelaw10.TabletMoves", spec := "tabletMoves", inPlace := ["math.Float64bits", "math.Float64frombits", "internal/bytealg.Compare", "slices.overlaps[wardmote/api.Column]", "slices.overlaps[wardmote/api.Version]", "slices.overlaps[wardmote/api.Named]", "slices.overlaps[wardmote/once.told]"], unfollowed := true, recurses := true, apart := false, narrowed := true }
def TabletMovesUptoSaid : Prop := tabletMovesUptoRow.holds Tryz.pinned (OpenSpec.upto tabletMovesSpec)

/-- 'wardmotelaw10.TabletFreezes', WHERE WHAT IT READS IS OF BULK AT MOST 1048576: true; the input reads as it did. -/
def tabletFreezesUptoRow : OpenClaim := { program := "ytiagcnfmgigllaagreat", sum := "dbe13664437ca634d4941cdc99b1ffd4c6bdb0367de36b6a2d0106206c7e6795", func := "wardmote/wardmotelaw10.TabletFreezes", spec := "tabletFreezes", inPlace := ["math.Float64bits", "math.Float64frombits", "internal/bytealg.Compare", "slices.overlaps[wardmote/api.Column]", "slices.overlaps[wardmote/api.Version]", "slices.overlaps[wardmote/api.Named]", "slices.overlaps[wardmote/once.told]"], unfollowed := true, recurses := true, apart := false, narrowed := true }
def TabletFreezesUptoSaid : Prop := tabletFreezesUptoRow.holds Tryz.pinned (OpenSpec.upto tabletFreezesSpec)

/-- 'wardmotelaw10.TabletSplits', WHERE WHAT IT READS IS OF BULK AT MOST 1048576: true; the input reads as it did. -/
def tabletSplitsUptoRow : OpenClaim := { program := "ytiagcnfmgigllaagreat", sum := "dbe13664437ca634d4941cdc99b1ffd4c6bdb0367de36b6a2d0106206c7e6795", func := "wardmote/wardmotelaw10.TabletSplits", spec := "tabletSplits", inPlace := ["math.Float64bits", "math.Float64frombits", "internal/bytealg.Compare", "slices.overlaps[wardmote/api.Column]", "slices.overlaps[wardmote/api.Version]", "slices.overlaps[wardmote/api.Named]", "slices.overlaps[wardmote/once.told]"], unfollowed := true, recurses := true, apart := false, narrowed := true }
def TabletSplitsUptoSaid : Prop := tabletSplitsUptoRow.holds Tryz.pinned (OpenSpec.upto tabletSplitsSpec)

/-- 'wardmotelaw10.TabletApart', WHERE WHAT IT READS IS OF BULK AT MOST 1048576: true; the input reads as it did. -/
def tabletApartUptoRow : OpenClaim := { program := "ytiagcnfmgigllaagreat", sum := "dbe13664437ca634d4941cdc99b1ffd4c6bdb0367de36b6a2d0106206c7e6795", func := "wardmote/wardmotelaw10.TabletApart", spec := "tabletApart", inPlace := ["math.Float64bits", "math.Float64frombits", "internal/bytealg.Compare", "slices.overlaps[wardmote/api.Column]", "slices.overlaps[wardmote/api.Version]", "slices.overlaps[wardmote/api.Named]", "slices.overlaps[wardmote/once.told]"], unfollowed := true, recurses := true, apart := false, narrowed := true }
def TabletApartUptoSaid : Prop := tabletApartUptoRow.holds Tryz.pinned (OpenSpec.upto tabletApartSpec)

/-- 'wardmotelaw10.TabletOnce', WHERE WHAT IT READS IS OF BULK AT MOST 1048576: true; the input reads as it did. -/
def tabletOnceUptoRow : OpenClaim := { program := "ytiagcnfmgigllaagreat", sum := "dbe13664437ca634d4941cdc99b1ffd4c6bdb0367de36b6a2d0106206c7e6795", func := "wardmote/wardmotelaw10.TabletOnce", spec := "tabletOnce", inPlace := ["math.Float64frombits", "math.Float64bits", "internal/bytealg.Compare", "slices.overlaps[wardmote/api.Column]", "slices.overlaps[wardmote/api.Version]", "slices.overlaps[wardmote/api.Named]", "slices.overlaps[wardmote/once.told]"], unfollowed := true, recurses := true, apart := false, narrowed := true }
def TabletOnceUptoSaid : Prop := tabletOnceUptoRow.holds Tryz.pinned (OpenSpec.upto tabletOnceSpec)

end Rows
end Go.Proofs.YtiagcnfmgigllaaGreat
