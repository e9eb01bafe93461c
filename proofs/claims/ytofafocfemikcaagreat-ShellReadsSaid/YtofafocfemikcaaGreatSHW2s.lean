/- A part of a proof over the abstract machine. No conditions. -/
import Derived.Test.YtofafocfemikcaaGreatSHW
import Derived.Test.YtofafocfemikcaaGreatSeatW
set_option linter.unusedSimpArgs false
set_option linter.unnecessarySimpa false
set_option linter.unusedVariables false
namespace Go.Proofs.YtofafocfemikcaaGreat
open Go Go.Ab Wm NumPlain
set_option maxRecDepth 10000
set_option maxHeartbeats 4000000
theorem sright_c (g n c:Int) (o:Option (List Wm.Item)) (hl:(ls o).length ≤ 256) (h:H):W K 8 [.agg [ii g,ii n,ii c,sl 5 encItem o]] h = some (.ret (.one (ii (if ShellPlain.okS (scP g n c o) then 0 else 1))) h):=by
 have e:ShellPlain.okS (scP g n c o) = ((ShellPlain.small g && ShellPlain.small n && ShellPlain.small c) && (ls o).all (fun x=>ShellPlain.okI (itP x))):=by
  unfold ShellPlain.okS scP
  simp only [List.length_map,hl,decide_true,Bool.true_and,List.all_map]
  rfl
 rw [e]
 cases hs:(ShellPlain.small g && ShellPlain.small n && ShellPlain.small c) with
 | false=>simpa using right_small g n c o hl hs h
 | true=>simpa using right_items g n c o hl hs h
theorem okS_all {g n c:Int} {o:Option (List Wm.Item)} (h:ShellPlain.okS (scP g n c o) = true):∀ x ∈ ls o,ShellPlain.okI (itP x) = true:=by
 unfold ShellPlain.okS scP at h
 simp only [Bool.and_eq_true,List.all_eq_true] at h
 exact fun x hx=>h.2 (itP x) (List.mem_map.2 ⟨x,hx,rfl⟩)
end Go.Proofs.YtofafocfemikcaaGreat
