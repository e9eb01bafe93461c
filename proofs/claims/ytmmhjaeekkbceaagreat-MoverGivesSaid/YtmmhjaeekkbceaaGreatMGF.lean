/- A part of a proof over the abstract machine. No conditions. -/
import Derived.Test.YtmmhjaeekkbceaaGreatMGE
import Derived.Test.YtmmhjaeekkbceaaGreatAb5
import Derived.Test.YtmmhjaeekkbceaaGreatMGJ
set_option linter.unusedSimpArgs false
set_option linter.unusedVariables false
namespace Go.Proofs.YtmmhjaeekkbceaaGreat
open Go Go.Ab Go.Fa Wm
set_option maxRecDepth 100000
theorem start_c (x a:AS):∃ j h,X K cA (.one x::.one a::List.replicate 160 .undef) H.empty = some (.normal,frL 162 [(0,.one x),(1,.one a),(5,.one (p 1))] j,h)∧Kw (VB 0) h:=by
 have k0:Kw ⟨0,[]⟩ H.empty:=⟨⟨rfl,fun b k hb=>by cases hb⟩,fun b k hb=>by cases hb⟩
 obtain ⟨j,h,e,k⟩:=piece_fr (xs:=[x,a,p 1]) (rA x a) dA rfl (by omega) k0
 exact ⟨j,h,e,Kw.congr k rfl (by simp [VB,vB0])⟩
theorem gives_c (x a:Int) (hx:I64 x) (ha:I64 a):∃ h',W K 3 [.one (ii x),.one (ii a)] H.empty = some (.ret (.one (.bool true)) h'):=by
 obtain ⟨j0,h0,e0,k0⟩:=start_c (ii x) (ii a)
 obtain ⟨n,j1,n1,n2,e1⟩:=mid_c x a hx j0 h0
 obtain ⟨j2,h2,e2,k2⟩:=block_c n2 puts_c (ii a) j1 h0 k0
 obtain ⟨vM,hm,⟨c1,c2,c3,c4,hB⟩,hn,he⟩:=all_n n n1 n2
 obtain ⟨j3,h3,e3,k3⟩:=hm (ii a) j2 h2 k2
 obtain ⟨k,hk,er⟩:=row_c a ha h3
 obtain ⟨h4,h5,e4,e5,hE⟩:=he k hk h3 k3
 obtain ⟨j4,e6⟩:=turn_c j3 (k3.f _ _ hB) (by rw [k3.next];exact hn) er e4 e5
 obtain ⟨fr',h6,e7,e8⟩:=hE j4
 refine ⟨h6,W_does hp rfl rfl rfl Tryz.func3 rfl (by simp [Tryz.f3]) ?_⟩
 refine ⟨_,_,_,(?_:X K (bodyOf Tryz.f3) _ _ = some (.ret,fr',h6)),.one (.bool true), ?_,rfl⟩
 ·rw [← X_flat hp]
  have hL:flatC (bodyOf Tryz.f3) = L:=rfl
  rw [hL,L_cut,X_app hp]
  have e0':X K (seqL (L.take 5)) ([AV.one (ii x),AV.one (ii a)]++List.replicate (Tryz.f3.ntmps - [AV.one (ii x),AV.one (ii a)].length) .undef) H.empty = _:=e0
  rw [e0',then_normal,X_app hp,e1,then_normal,X_app hp]
  have e2':X K (seqL [nth L 8]) (frL 162 (sB (ii a) (i n) 0 0) j1) h0 = _:=e2
  rw [e2',then_normal,X_app hp]
  have e3':X K (seqL ((L.drop 9).take 9)) (frL 162 [(1,.one (ii a)),(5,.one (p 1)),(6,.one (i n))] j2) h2 = _:=e3
  rw [e3',then_normal,X_app hp,e6,then_normal]
  exact e7
 ·show resultA K _ _ [.tmp 4] = _
  simp only [resultA,resVar,e8,oqE,oqS,partOf]
  rfl
theorem moverGives_spec:LawSpec Rows.moverGivesSpec 2:=by
 refine ⟨rfl,fun H ds hd=>?_⟩
 rcases ds with _ | ⟨d1,_ | ⟨d2,_ | ⟨d3,ds⟩⟩⟩ <;> simp at hd
 rfl
theorem moverGives_lifted (os:Os) (started:os.Started) (H:Type) (enc:TypeId × Value→H) :
  ReturnsInHanded {} Tryz.checked os 3 .any (Rows.moverGivesSpec.pre6 enc Tryz.prog Tryz.f3 [] false) (Rows.moverGivesSpec.post enc Tryz.prog Tryz.f3 false true false false):=by
 refine law_lifted (Ck:=Tryz.checked) Tryz.own started (by kernel_rfl) Tryz.func3 Tryz.laidOut (tb:=4) (by kernel_rfl) Tryz.underlying4 (by intro t ht;have:t ∈ [3,3]:=ht;simp at this;subst this;exact ⟨by kernel_rfl,of_decide_eq_true (by kernel_rfl)⟩) moverGives_spec
  (ChangeSpec.witness6 (enc:=enc) (C:=Tryz.checked) false ⟨#[],#[.int .i64 0,.int .i64 0],[]⟩ 8 (by kernel_rfl) (by kernel_rfl) (by kernel_rfl) (by kernel_rfl))
  (n:=6) (shs:=[(false,[.int .i64]),(false,[.int .i64])]) (by kernel_rfl) ?_
 intro w xs args hf ha
 obtain ⟨a0,r0,rfl,g0,hf⟩:=fit_cons hf
 obtain ⟨a1,r1,rfl,g1,hf⟩:=fit_cons hf
 cases fit_nil hf
 obtain ⟨x0,i0,j0,rfl⟩:=i64_inv g0
 obtain ⟨x1,i1,j1,rfl⟩:=i64_inv g1
 exact law_calls (C:=K) W_K Tryz.func3 rfl (by kernel_rfl) ha (gives_c x0 x1 ⟨i0,j0⟩ ⟨i1,j1⟩)
theorem moverGives_holds:Rows.MoverGivesSaid :=
 OpenClaim.holds_of_wide 3 Tryz.f3 rfl rfl rfl rfl rfl rfl rfl ⟨rfl,rfl,rfl,rfl,rfl⟩ rfl rfl rfl rfl rfl (by kernel_rfl) Tryz.func3 moverGives_facts
  (of_decide_eq_true (by kernel_rfl)) (by unfold Func.isWrapper;first | (rw [if_pos (by decide +kernel)];kernel_rfl) | (rw [if_neg (by decide +kernel)];exact ⟨rfl,rfl⟩))
  (fun os started H enc _=>moverGives_lifted os started H enc)
#print axioms moverGives_holds
end Go.Proofs.YtmmhjaeekkbceaaGreat
