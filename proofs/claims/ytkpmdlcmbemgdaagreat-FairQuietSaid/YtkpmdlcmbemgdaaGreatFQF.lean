/- A part of a proof over the abstract machine. No conditions. -/
import Derived.Test.YtkpmdlcmbemgdaaGreatFQL4
import Derived.Test.YtkpmdlcmbemgdaaGreatFQQ
import Derived.Test.YtkpmdlcmbemgdaaGreatAb5
import Derived.Test.YtkpmdlcmbemgdaaGreatFQJ
set_option linter.unusedSimpArgs false
set_option linter.unusedVariables false
namespace Go.Proofs.YtkpmdlcmbemgdaaGreat
open Go Go.Ab Go.Fa Wm
set_option maxRecDepth 100000
theorem all_c (g n k:Nat) (hg:g = 1 ∨ g = 2 ∨ g = 3) (hn:n = 1 ∨ n = 3) (hk:k = 1 ∨ k = 2 ∨ k = 3 ∨ k = 4) :
  ∃ V0 V1 V2 V m ld bl rp,Qt g n k V0 V1 V2 V m ld bl rp∧(∀ x,(V x).next = m)∧(∀ q,ld q < 1000)∧∀ q,bl q < 1000:=by
 rcases hg with rfl | rfl | rfl <;> rcases hn with rfl | rfl <;> rcases hk with rfl | rfl | rfl | rfl
 ·exact ⟨_,_,_,_,_,_,_,_,q111,fun _=>rfl,fun _=>by decide,fun _=>by decide⟩
 ·exact ⟨_,_,_,_,_,_,_,_,q112,fun _=>rfl,fun _=>by decide,fun _=>by decide⟩
 ·exact ⟨_,_,_,_,_,_,_,_,q113,fun _=>rfl,fun _=>by decide,fun _=>by decide⟩
 ·exact ⟨_,_,_,_,_,_,_,_,q114,fun _=>rfl,fun _=>by decide,fun _=>by decide⟩
 ·exact ⟨_,_,_,_,_,_,_,_,q131,fun _=>rfl,fun _=>by decide,fun _=>by decide⟩
 ·exact ⟨_,_,_,_,_,_,_,_,q132,fun _=>rfl,fun _=>by decide,fun _=>by decide⟩
 ·exact ⟨_,_,_,_,_,_,_,_,q133,fun _=>rfl,fun _=>by decide,fun _=>by decide⟩
 ·exact ⟨_,_,_,_,_,_,_,_,q134,fun _=>rfl,fun _=>by decide,fun _=>by decide⟩
 ·exact ⟨_,_,_,_,_,_,_,_,q211,fun _=>rfl,fun _=>by decide,fun _=>by decide⟩
 ·exact ⟨_,_,_,_,_,_,_,_,q212,fun _=>rfl,fun _=>by decide,fun _=>by decide⟩
 ·exact ⟨_,_,_,_,_,_,_,_,q213,fun _=>rfl,fun _=>by decide,fun _=>by decide⟩
 ·exact ⟨_,_,_,_,_,_,_,_,q214,fun _=>rfl,fun _=>by decide,fun _=>by decide⟩
 ·exact ⟨_,_,_,_,_,_,_,_,q231,fun _=>rfl,fun _=>by decide,fun _=>by decide⟩
 ·exact ⟨_,_,_,_,_,_,_,_,q232,fun _=>rfl,fun _=>by decide,fun _=>by decide⟩
 ·exact ⟨_,_,_,_,_,_,_,_,q233,fun _=>rfl,fun _=>by decide,fun _=>by decide⟩
 ·exact ⟨_,_,_,_,_,_,_,_,q234,fun _=>rfl,fun _=>by decide,fun _=>by decide⟩
 ·exact ⟨_,_,_,_,_,_,_,_,q311,fun _=>rfl,fun _=>by decide,fun _=>by decide⟩
 ·exact ⟨_,_,_,_,_,_,_,_,q312,fun _=>rfl,fun _=>by decide,fun _=>by decide⟩
 ·exact ⟨_,_,_,_,_,_,_,_,q313,fun _=>rfl,fun _=>by decide,fun _=>by decide⟩
 ·exact ⟨_,_,_,_,_,_,_,_,q314,fun _=>rfl,fun _=>by decide,fun _=>by decide⟩
 ·exact ⟨_,_,_,_,_,_,_,_,q331,fun _=>rfl,fun _=>by decide,fun _=>by decide⟩
 ·exact ⟨_,_,_,_,_,_,_,_,q332,fun _=>rfl,fun _=>by decide,fun _=>by decide⟩
 ·exact ⟨_,_,_,_,_,_,_,_,q333,fun _=>rfl,fun _=>by decide,fun _=>by decide⟩
 ·exact ⟨_,_,_,_,_,_,_,_,q334,fun _=>rfl,fun _=>by decide,fun _=>by decide⟩
theorem quiet_all (x0 x1 x2 x3:Int) (h0:I64 x0) (h1:I64 x1) (h2:I64 x2) (h3:I64 x3):∃ h',W K 3 [.one (ii x0),.one (ii x1),.one (ii x2),.one (ii x3)] H.empty = some (.ret (.one (.bool true)) h'):=by
 obtain ⟨g,n,k,hg,hn,hk,r,e,hr⟩:=config_c x0 x1 x2 h0 h1 h2 H.empty
 obtain ⟨v,hc,rfl,rfl,_,_⟩:=hr.ret
 obtain ⟨V0,V1,V2,V,m,ld,bl,rp,q,hV,hl,hb⟩:=all_c g n k hg hn hk
 exact quiet_c q hV (by omega) hl hb (fun h=>by obtain ⟨h',e,_⟩:=known_c rK h;exact ⟨h',e⟩) x0 x1 x2 x3 h3 H.empty hc e
theorem fairQuiet_spec:LawSpec Rows.fairQuietSpec 4:=by
 refine ⟨rfl,fun H ds hd=>?_⟩
 rcases ds with _ | ⟨d1,_ | ⟨d2,_ | ⟨d3,_ | ⟨d4,_ | ⟨d5,ds⟩⟩⟩⟩⟩ <;> simp at hd
 rfl
theorem fairQuiet_lifted (os:Os) (started:os.Started) (H:Type) (enc:TypeId × Value→H) :
  ReturnsInHanded {} Tryz.checked os 3 .any (Rows.fairQuietSpec.pre6 enc Tryz.prog Tryz.f3 [] false) (Rows.fairQuietSpec.post enc Tryz.prog Tryz.f3 false true false false):=by
 refine law_lifted (Ck:=Tryz.checked) Tryz.own started (by kernel_rfl) Tryz.func3 Tryz.laidOut (tb:=4) (by kernel_rfl) Tryz.underlying4 (by intro t ht;have:t ∈ [3,3,3,3]:=ht;simp at this;subst this;exact ⟨by kernel_rfl,of_decide_eq_true (by kernel_rfl)⟩) fairQuiet_spec
  (ChangeSpec.witness6 (enc:=enc) (C:=Tryz.checked) false ⟨#[],#[.int .i64 0,.int .i64 0,.int .i64 0,.int .i64 0],[]⟩ 8 (by kernel_rfl) (by kernel_rfl) (by kernel_rfl) (by kernel_rfl))
  (n:=6) (shs:=[(false,[.int .i64]),(false,[.int .i64]),(false,[.int .i64]),(false,[.int .i64])]) (by kernel_rfl) ?_
 intro w xs args hf ha
 obtain ⟨a0,r0,rfl,g0,hf⟩:=fit_cons hf
 obtain ⟨a1,r1,rfl,g1,hf⟩:=fit_cons hf
 obtain ⟨a2,r2,rfl,g2,hf⟩:=fit_cons hf
 obtain ⟨a3,r3,rfl,g3,hf⟩:=fit_cons hf
 cases fit_nil hf
 obtain ⟨x0,i0,j0,rfl⟩:=i64_inv g0
 obtain ⟨x1,i1,j1,rfl⟩:=i64_inv g1
 obtain ⟨x2,i2,j2,rfl⟩:=i64_inv g2
 obtain ⟨x3,i3,j3,rfl⟩:=i64_inv g3
 exact law_calls (C:=K) W_K Tryz.func3 rfl (by kernel_rfl) ha (quiet_all x0 x1 x2 x3 ⟨i0,j0⟩ ⟨i1,j1⟩ ⟨i2,j2⟩ ⟨i3,j3⟩)
theorem fairQuiet_holds:Rows.FairQuietSaid :=
 OpenClaim.holds_of_wide 3 Tryz.f3 rfl rfl rfl rfl rfl rfl rfl ⟨rfl,rfl,rfl,rfl,rfl⟩ rfl rfl rfl rfl rfl (by kernel_rfl) Tryz.func3 fairQuiet_facts
  (of_decide_eq_true (by kernel_rfl)) (by unfold Func.isWrapper;first | (rw [if_pos (by decide +kernel)];kernel_rfl) | (rw [if_neg (by decide +kernel)];exact ⟨rfl,rfl⟩))
  (fun os started H enc _=>fairQuiet_lifted os started H enc)
#print axioms fairQuiet_holds
end Go.Proofs.YtkpmdlcmbemgdaaGreat
