/- A part of a proof over the abstract machine. No conditions. -/
import Derived.Test.YtiagcnfmgigllaaGreatT49
import Derived.Test.YtiagcnfmgigllaaGreatSJTabletSplits
set_option linter.unusedSimpArgs false
set_option linter.unusedVariables false
namespace Go.Proofs.YtiagcnfmgigllaaGreat
open Go Go.Ab Wm NumPlain
set_option maxRecDepth 10000
set_option maxHeartbeats 4000000
theorem tabletSplits_spec:LawSpec Rows.tabletSplitsSpec 2:=by
 refine ⟨rfl,fun H ds hd=>?_⟩
 rcases ds with _ | ⟨d1,_ | ⟨d2,_ | ⟨d3,ds⟩⟩⟩ <;> simp at hd
 rfl
theorem splits_c {a0 a1:AV} (g0:FitA (false,[.slc koS]) a0) (g1:FitA (false,[.slc [.int .i64]]) a1):∃ h',W K 5 [a0,a1] H.empty = some (.ret (.one (.bool true)) h'):=by
 obtain ⟨z,rfl,hz⟩:=fit_one g0
 obtain ⟨l,ll,lok,rfl⟩:=fit_sl fit_ko hz
 obtain ⟨y,rfl,hy⟩:=fit_one g1
 obtain ⟨m,ml,mok,rfl⟩:=fit_sl fit_in hy
 have hm:maxLen < 9223372036854775808:=by decide
 obtain ⟨r,e,hr⟩:=law_splits l m (fun x hx=>(lok x hx).1) mok (by omega) (by omega) H.empty
 obtain ⟨v,h',rfl,rfl⟩:=hr.ret
 exact ⟨h',e⟩
set_option maxRecDepth 100000 in
theorem tabletSplits_lifted (os:Os) (started:os.Started) (H:Type) (enc:TypeId × Value→H) :
  ReturnsInHanded {} Tryz.checked os 5 .any (Rows.tabletSplitsSpec.pre6 enc Tryz.prog Tryz.f5 [] false) (Rows.tabletSplitsSpec.post enc Tryz.prog Tryz.f5 false true false false):=by
 refine law_lifted (Ck:=Tryz.checked) Tryz.own started (by kernel_rfl) Tryz.func5 Tryz.laidOut (tb:=4) (by kernel_rfl) Tryz.underlying4 (by intro t ht;have:t ∈ [22,57]:=ht;simp at this;rcases this with rfl | rfl <;> exact ⟨by kernel_rfl,of_decide_eq_true (by kernel_rfl)⟩) tabletSplits_spec
  (ChangeSpec.witness6 (enc:=enc) (C:=Tryz.checked) false ⟨#[],#[.slice none 0 0,.slice none 0 0],[]⟩ 8 (by kernel_rfl) (by kernel_rfl) (by kernel_rfl) (by kernel_rfl))
  (n:=12) (shs:=[(false,[.slc koS]),(false,[.slc [.int .i64]])]) (by kernel_rfl) ?_
 intro w xs args hf ha
 obtain ⟨a0,r0,rfl,g0,hf⟩:=fit_cons hf
 obtain ⟨a1,r1,rfl,g1,hf⟩:=fit_cons hf
 cases fit_nil hf
 exact law_calls (C:=K) W_K Tryz.func5 rfl (by kernel_rfl) ha (splits_c g0 g1)
theorem tabletSplits_holds:Rows.TabletSplitsSaid :=
 OpenClaim.holds_of_wide 5 Tryz.f5 rfl rfl rfl rfl rfl rfl rfl ⟨rfl,rfl,rfl,rfl,rfl⟩ rfl rfl rfl rfl rfl (by kernel_rfl) Tryz.func5 tabletSplits_facts
  (of_decide_eq_true (by kernel_rfl)) (by unfold Func.isWrapper;first | (rw [if_pos (by decide +kernel)];kernel_rfl) | (rw [if_neg (by decide +kernel)];exact ⟨rfl,rfl⟩))
  (fun os started H enc _=>tabletSplits_lifted os started H enc)
#print axioms tabletSplits_holds
end Go.Proofs.YtiagcnfmgigllaaGreat
