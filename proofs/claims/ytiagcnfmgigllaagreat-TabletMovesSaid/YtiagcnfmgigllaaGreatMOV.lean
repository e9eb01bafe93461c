/- A part of a proof over the abstract machine. No conditions. -/
import Derived.Test.YtiagcnfmgigllaaGreatT58
import Derived.Test.YtiagcnfmgigllaaGreatSJTabletMoves
set_option linter.all false
namespace Go.Proofs.YtiagcnfmgigllaaGreat
open Go Go.Ab Wm NumPlain Go.Proofs.Tryz
set_option maxRecDepth 10000
set_option maxHeartbeats 4000000
theorem i0j:LawSpec Rows.tabletMovesSpec 2:=by
 refine ⟨rfl,fun H ds hd=>?_⟩
 rcases ds with _ | ⟨d1,_ | ⟨d2,_ | ⟨d3,ds⟩⟩⟩ <;> simp at hd
 rfl
theorem y0i {a0 a1:AV} (g0:i0c (false,[.slc koS]) a0) (g1:i0c (false,[.slc koS]) a1):∃ h',W K 3 [a0,a1] H.empty = some (.ret (.one (.bool true)) h'):=by
 obtain ⟨z,rfl,hz⟩:=r0l g0
 obtain ⟨l,ll,lok,rfl⟩:=m0Y x0p hz
 obtain ⟨y,rfl,hy⟩:=r0l g1
 obtain ⟨m,ml,mok,rfl⟩:=m0Y x0p hy
 obtain ⟨r,e,hr⟩:=t0u l m lok mok H.empty
 obtain ⟨v,h',rfl,rfl⟩:=hr.ret
 exact ⟨h',e⟩
set_option maxRecDepth 100000 in
theorem g0g (os:Os) (started:os.Started) (H:Type) (enc:TypeId × Value→H) :
  ReturnsInHanded {} Tryz.checked os 3 .any (Rows.tabletMovesSpec.pre6 enc prog Tryz.f3 [] false) (Rows.tabletMovesSpec.post enc prog Tryz.f3 false true false false):=by
 refine q0N (Ck:=Tryz.checked) Tryz.own started (by kernel_rfl) func3 Tryz.laidOut (tb:=4) (by kernel_rfl) underlying4 (by intro t ht;have:t ∈ [22,22]:=ht;simp at this;subst this;exact ⟨by kernel_rfl,of_decide_eq_true (by kernel_rfl)⟩) i0j
  (ChangeSpec.witness6 (enc:=enc) (C:=Tryz.checked) false ⟨#[],#[.slice none 0 0,.slice none 0 0],[]⟩ 8 (by kernel_rfl) (by kernel_rfl) (by kernel_rfl) (by kernel_rfl))
  (n:=12) (shs:=[(false,[.slc koS]),(false,[.slc koS])]) (by kernel_rfl) ?_
 intro w xs args hf ha
 obtain ⟨a0,r0,rfl,g0,hf⟩:=o0W hf
 obtain ⟨a1,r1,rfl,g1,hf⟩:=o0W hf
 cases z0J hf
 exact s0W (C:=K) W_K func3 rfl (by kernel_rfl) ha (y0i g0 g1)
theorem tabletMoves_holds:Rows.TabletMovesSaid :=
 OpenClaim.holds_of_wide 3 Tryz.f3 rfl rfl rfl rfl rfl rfl rfl ⟨rfl,rfl,rfl,rfl,rfl⟩ rfl rfl rfl rfl rfl (by kernel_rfl) func3 h0g
  (of_decide_eq_true (by kernel_rfl)) (by unfold Func.isWrapper;first | (rw [if_pos (by decide +kernel)];kernel_rfl) | (rw [if_neg (by decide +kernel)];exact ⟨rfl,rfl⟩))
  (fun os started H enc _=>g0g os started H enc)
#print axioms tabletMoves_holds
end Go.Proofs.YtiagcnfmgigllaaGreat
