/- A part of a proof over the abstract machine. No conditions. -/
import Derived.Test.YtiagcnfmgigllaaGreatT55
import Derived.Test.YtiagcnfmgigllaaGreatSJTabletFreezes
set_option linter.unusedSimpArgs false
set_option linter.unusedVariables false
namespace Go.Proofs.YtiagcnfmgigllaaGreat
open Go Go.Ab Wm NumPlain
set_option maxRecDepth 10000
set_option maxHeartbeats 4000000
theorem g0t:LawSpec Rows.tabletFreezesSpec 2:=by
 refine ⟨rfl,fun H ds hd=>?_⟩
 rcases ds with _ | ⟨d1,_ | ⟨d2,_ | ⟨d3,ds⟩⟩⟩ <;> simp at hd
 rfl
theorem s0g {a0 a1:AV} (g0:i0w (false,[.slc koS]) a0) (g1:i0w (false,[.slc koS]) a1):∃ h',W K 4 [a0,a1] H.empty = some (.ret (.one (.bool true)) h'):=by
 obtain ⟨z,rfl,hz⟩:=r0K g0
 obtain ⟨l,ll,lok,rfl⟩:=n0m t0N hz
 obtain ⟨y,rfl,hy⟩:=r0K g1
 obtain ⟨m,ml,mok,rfl⟩:=n0m t0N hy
 obtain ⟨r,e,hr⟩:=o0T l m lok mok H.empty
 obtain ⟨v,h',rfl,rfl⟩:=hr.ret
 exact ⟨h',e⟩
set_option maxRecDepth 100000 in
theorem f0v (os:Os) (started:os.Started) (H:Type) (enc:TypeId × Value→H) :
  ReturnsInHanded {} Tryz.checked os 4 .any (Rows.tabletFreezesSpec.pre6 enc Tryz.prog Tryz.f4 [] false) (Rows.tabletFreezesSpec.post enc Tryz.prog Tryz.f4 false true false false):=by
 refine q0t (Ck:=Tryz.checked) Tryz.own started (by kernel_rfl) Tryz.func4 Tryz.laidOut (tb:=4) (by kernel_rfl) Tryz.underlying4 (by intro t ht;have:t ∈ [22,22]:=ht;simp at this;subst this;exact ⟨by kernel_rfl,of_decide_eq_true (by kernel_rfl)⟩) g0t
  (ChangeSpec.witness6 (enc:=enc) (C:=Tryz.checked) false ⟨#[],#[.slice none 0 0,.slice none 0 0],[]⟩ 8 (by kernel_rfl) (by kernel_rfl) (by kernel_rfl) (by kernel_rfl))
  (n:=12) (shs:=[(false,[.slc koS]),(false,[.slc koS])]) (by kernel_rfl) ?_
 intro w xs args hf ha
 obtain ⟨a0,r0,rfl,g0,hf⟩:=n0N hf
 obtain ⟨a1,r1,rfl,g1,hf⟩:=n0N hf
 cases x0B hf
 exact s0J (C:=K) W_K Tryz.func4 rfl (by kernel_rfl) ha (s0g g0 g1)
theorem tabletFreezes_holds:Rows.TabletFreezesSaid :=
 OpenClaim.holds_of_wide 4 Tryz.f4 rfl rfl rfl rfl rfl rfl rfl ⟨rfl,rfl,rfl,rfl,rfl⟩ rfl rfl rfl rfl rfl (by kernel_rfl) Tryz.func4 f0T
  (of_decide_eq_true (by kernel_rfl)) (by unfold Func.isWrapper;first | (rw [if_pos (by decide +kernel)];kernel_rfl) | (rw [if_neg (by decide +kernel)];exact ⟨rfl,rfl⟩))
  (fun os started H enc _=>f0v os started H enc)
#print axioms tabletFreezes_holds
end Go.Proofs.YtiagcnfmgigllaaGreat
