/- A part of a proof over the abstract machine. No conditions. -/
import Derived.Test.YtiagcnfmgigllaaGreatT43
import Derived.Test.YtiagcnfmgigllaaGreatSJTabletOnce
import Derived.Test.YtiagcnfmgigllaaGreatT77
set_option linter.all false
namespace Go.Proofs.YtiagcnfmgigllaaGreat
open Go Go.Ab Wm NumPlain Go.Proofs.Tryz
set_option maxRecDepth 10000
set_option maxHeartbeats 4000000
theorem j0z:LawSpec Rows.tabletOnceSpec 2:=by
 refine ⟨rfl,fun H ds hd=>?_⟩
 rcases ds with _ | ⟨d1,_ | ⟨d2,_ | ⟨d3,ds⟩⟩⟩ <;> simp at hd
 rfl
theorem B0A {a0 a1:AV} (g0:i0O (false,[.slc [.int .i64]]) a0) (g1:i0O (false,[.slc [.int .i64]]) a1):∃ h',W K 7 [a0,a1] H.empty = some (.ret (.one (.bool true)) h'):=by
 obtain ⟨z,rfl,hz⟩:=s0u g0
 obtain ⟨l,ll,lok,rfl⟩:=q0C w0S hz
 obtain ⟨y,rfl,hy⟩:=s0u g1
 obtain ⟨m,ml,mok,rfl⟩:=q0C w0S hy
 have hm:maxLen < 9223372036854775808:=by decide
 obtain ⟨r,e,hr⟩:=w0d l m lok mok (by omega) (by omega) H.empty
 obtain ⟨v,h',rfl,rfl⟩:=hr.ret
 exact ⟨h',e⟩
set_option maxRecDepth 100000 in
theorem i0m (os:Os) (started:os.Started) (H:Type) (enc:TypeId × Value->H) :
  ReturnsInHanded {} Tryz.checked os 7 .any (Rows.tabletOnceSpec.pre6 enc prog f7 [] false) (Rows.tabletOnceSpec.post enc prog f7 false true false false):=by
 refine r0C (Ck:=Tryz.checked) Tryz.own started (by kernel_rfl) func7 Tryz.laidOut (tb:=4) (by kernel_rfl) underlying4 (by intro t ht;have:t ∈ [57,57]:=ht;simp at this;rcases this with rfl <;> exact ⟨by kernel_rfl,of_decide_eq_true (by kernel_rfl)⟩) j0z
  (ChangeSpec.witness6 (enc:=enc) (C:=Tryz.checked) false ⟨#[],#[.slice none 0 0,.slice none 0 0],[]⟩ 8 (by kernel_rfl) (by kernel_rfl) (by kernel_rfl) (by kernel_rfl))
  (n:=12) (shs:=[(false,[.slc [.int .i64]]),(false,[.slc [.int .i64]])]) (by kernel_rfl) ?_
 intro w xs args hf ha
 obtain ⟨a0,r0,rfl,g0,hf⟩:=o0Q hf
 obtain ⟨a1,r1,rfl,g1,hf⟩:=o0Q hf
 cases A0b hf
 exact t0j (C:=K) W_K func7 rfl (by kernel_rfl) ha (B0A g0 g1)
theorem tabletOnce_holds:Rows.TabletOnceSaid :=
 OpenClaim.holds_of_wide 7 f7 rfl rfl rfl rfl rfl rfl rfl ⟨rfl,rfl,rfl,rfl,rfl⟩ rfl rfl rfl rfl rfl (by kernel_rfl) func7 i0V
  (of_decide_eq_true (by kernel_rfl)) (by unfold Func.isWrapper;first | (rw [if_pos (by decide +kernel)];kernel_rfl) | (rw [if_neg (by decide +kernel)];exact ⟨rfl,rfl⟩))
  (fun os started H enc _=>i0m os started H enc)
#print axioms tabletOnce_holds
end Go.Proofs.YtiagcnfmgigllaaGreat
