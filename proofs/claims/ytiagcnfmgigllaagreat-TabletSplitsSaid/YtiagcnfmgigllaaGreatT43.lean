/- A part of a proof over the abstract machine. No conditions. -/
import Derived.Test.YtiagcnfmgigllaaGreatWmStore2
set_option linter.unusedSimpArgs false
set_option linter.unnecessarySimpa false
set_option linter.unusedVariables false
namespace Go.Proofs.YtiagcnfmgigllaaGreat
open Go Go.Ab Wm NumPlain
set_option maxRecDepth 10000
set_option maxHeartbeats 4000000
theorem fbitsK_c (n:Nat) (h:H):W K 155 [.one (.flt n)] h = some (.ret (.one (.int .u64 n)) h):=by rw [W_ext hp rfl rfl];rfl
theorem bits_e (b:Nat):∃ n:Int,∀ h,W K 233 [.one (.flt b)] h = some (.ret (.one (.int .u64 n)) h):=by
 obtain ⟨c1,h1⟩:∃ c,andI .u64 (b:Int) 9218868437227405312 = c:=⟨_,rfl⟩
 obtain ⟨c2,h2⟩:∃ c,andI .u64 (b:Int) 4503599627370495 = c:=⟨_,rfl⟩
 by_cases e1:c1 = 9218868437227405312
 ·subst e1
  by_cases e2:c2 = 0
  ·subst e2
   refine ⟨b,fun h=>?_⟩
   have hown:memL S.own 233 = false:=by kernel_rfl
   refine W_pure hp (by simp [pureV,pureS]) (apart_does rfl rfl (by kernel_rfl) Tryz.func233 rfl (by simp [Tryz.f233]) ?_)
   simp only [Tryz.f233]
   refine hide ?_;intro Q1 hQ1
   repeat' (first
    | (replace hQ1:=hQ1;simp [fbitsK_c,h1,h2,outV,frzV,frzS,pureS,K_own,hown])
    | refine hQ1 _ _ _ ?_)
  ·have e2b:(c2 == 0) = false:=by simp [e2]
   have e2c:(c2 != 0) = true:=by simp [e2]
   refine ⟨9221120237041090561,fun h=>?_⟩
   have hown:memL S.own 233 = false:=by kernel_rfl
   refine W_pure hp (by simp [pureV,pureS]) (apart_does rfl rfl (by kernel_rfl) Tryz.func233 rfl (by simp [Tryz.f233]) ?_)
   simp only [Tryz.f233]
   refine hide ?_;intro Q2 hQ2
   repeat' (first
    | (replace hQ2:=hQ2;simp [fbitsK_c,h1,h2,e2c,outV,frzV,frzS,pureS,K_own,hown])
    | refine hQ2 _ _ _ ?_)
 ·have e1b:(c1 == 9218868437227405312) = false:=by simp [e1]
  refine ⟨b,fun h=>?_⟩
  have hown:memL S.own 233 = false:=by kernel_rfl
  refine W_pure hp (by simp [pureV,pureS]) (apart_does rfl rfl (by kernel_rfl) Tryz.func233 rfl (by simp [Tryz.f233]) ?_)
  simp only [Tryz.f233]
  refine hide ?_;intro Q3 hQ3
  repeat' (first
   | (replace hQ3:=hQ3;simp [fbitsK_c,h1,e1b,outV,frzV,frzS,pureS,K_own,hown])
   | refine hQ3 _ _ _ ?_)
theorem place_e (b:Nat):∃ n:Int,∀ h,W K 202 [.one (.flt b)] h = some (.ret (.one (.int .u64 n)) h):=by
 obtain ⟨n,hb⟩:=bits_e b
 by_cases e1:n = 9221120237041090561
 ·subst e1
  refine ⟨18446744073709551615,fun h=>?_⟩
  refine W_does hp rfl rfl rfl Tryz.func202 rfl (by simp [Tryz.f202]) ?_
  simp only [Tryz.f202]
  refine hide ?_;intro Q4 hQ4
  repeat' (first
   | (replace hQ4:=hQ4;simp [hb])
   | refine hQ4 _ _ _ ?_)
 ·have e1b:(n == 9221120237041090561) = false:=by simp [e1]
  have hs:shiftI .shr .u64 n 63 = some (.int .u64 (n.fdiv (2 ^ min (63:Int).toNat IntKind.u64.bits))):=rfl
  obtain ⟨m,hm⟩:∃ m,n.fdiv (2 ^ min (63:Int).toNat IntKind.u64.bits) = m:=⟨_,rfl⟩
  rw [hm] at hs
  by_cases e2:m = 1
  ·subst e2
   refine ⟨notI .u64 n,fun h=>?_⟩
   refine W_does hp rfl rfl rfl Tryz.func202 rfl (by simp [Tryz.f202]) ?_
   simp only [Tryz.f202]
   refine hide ?_;intro Q5 hQ5
   repeat' (first
    | (replace hQ5:=hQ5;simp [hb,e1b,hs])
    | refine hQ5 _ _ _ ?_)
  ·have e2b:(m == 1) = false:=by simp [e2]
   refine ⟨orI .u64 n 9223372036854775808,fun h=>?_⟩
   refine W_does hp rfl rfl rfl Tryz.func202 rfl (by simp [Tryz.f202]) ?_
   simp only [Tryz.f202]
   refine hide ?_;intro Q6 hQ6
   repeat' (first
    | (replace hQ6:=hQ6;simp [hb,e1b,hs,e2b])
    | refine hQ6 _ _ _ ?_)
theorem rord_c (b:Nat) (h:H):W K 157 [.one (.flt b),.one (.flt b)] h = some (.ret (.one (ii 0)) h):=by
 obtain ⟨n,hb⟩:=place_e b
 have hown:memL S.own 157 = false:=by kernel_rfl
 refine W_pure hp (by simp [pureV,pureS]) (apart_does rfl rfl (by kernel_rfl) Tryz.func157 rfl (by simp [Tryz.f157]) ?_)
 simp only [Tryz.f157]
 refine hide ?_;intro Q7 hQ7
 repeat' (first
  | (replace hQ7:=hQ7;simp [hb,outV,frzV,frzS,pureS,K_own,hown])
  | refine hQ7 _ _ _ ?_)
def kindV (k:Int):Int:=if k = 1 ∨ k = 2 then k else 0
theorem rkind_c (v_kind:Int) (v_b:Option BL) (v_n:Nat) (h:H):W K 156 [.agg [ii v_kind,bs v_b,.flt v_n]] h = some (.ret (.one (ii (kindV v_kind))) (h.new ⟨0,[3],true,[ii v_kind,bs v_b,.flt v_n]⟩)):=by
 unfold kindV
 by_cases h1:v_kind = 1
 ·subst h1
  refine W_does hp rfl rfl rfl Tryz.func156 rfl (by simp [Tryz.f156]) ?_
  simp only [Tryz.f156]
  refine hide ?_;intro Q8 hQ8
  repeat' (first
   | (replace hQ8:=hQ8;simp)
   | refine hQ8 _ _ _ ?_)
 ·have h1b:(v_kind == 1) = false:=by simp [h1]
  by_cases h2:v_kind = 2
  ·subst h2
   refine W_does hp rfl rfl rfl Tryz.func156 rfl (by simp [Tryz.f156]) ?_
   simp only [Tryz.f156]
   refine hide ?_;intro Q9 hQ9
   repeat' (first
    | (replace hQ9:=hQ9;simp)
    | refine hQ9 _ _ _ ?_)
  ·have h2b:(v_kind == 2) = false:=by simp [h2]
   rw [if_neg (by simp [h1,h2])]
   refine W_does hp rfl rfl rfl Tryz.func156 rfl (by simp [Tryz.f156]) ?_
   simp only [Tryz.f156]
   refine hide ?_;intro Q10 hQ10
   repeat' (first
    | (replace hQ10:=hQ10;simp [h1b,h2b])
    | refine hQ10 _ _ _ ?_)
structure EqV (v w:Wm.Value):Prop where
 k:w.kind = v.kind
 b:v.kind = 1→ls w.b = ls v.b
 n:v.kind = 2→w.n = v.n
theorem rsameV_c {v w:Wm.Value} (e:EqV v w) (h:H):W K 67 [.agg (encV v),.agg (encV w)] h = some (.ret (.one (.bool true)) h):=by
 obtain ⟨v_kind,v_b,v_n⟩:=v
 obtain ⟨w_kind,w_b,w_n⟩:=w
 obtain ⟨e1,e2,e3⟩:=e
 simp only at e1 e2 e3
 subst e1
 simp only [encV]
 have hk1:=rkind_c w_kind v_b v_n
 have hk2:=rkind_c w_kind w_b w_n
 have ho:∀ h,W K 110 [.agg [ii w_kind,bs v_b,.flt v_n],.agg [ii w_kind,bs w_b,.flt w_n]] h = some (.ret (.one (ii 0)) h):=by
  intro h
  by_cases h1:w_kind = 1
  ·have hb:=e2 h1
   subst h1
   have hk:kindV 1 = 1:=rfl
   rw [hk] at hk1 hk2
   have hi:Op.bytesLess (ls v_b) (ls v_b) = false:=less_irrefl _
   have hown:memL S.own 110 = false:=by kernel_rfl
   refine W_pure hp (by simp [pureV,pureS,pureL]) (apart_does rfl rfl (by kernel_rfl) Tryz.func110 rfl (by simp [Tryz.f110]) ?_)
   simp only [Tryz.f110]
   refine hide ?_;intro Q11 hQ11
   repeat' (first
    | (replace hQ11:=hQ11;simp [hk1,hk2,conv_bs,strOp,hb,hi,outV,frzV,frzS,pureS,K_own,hown])
    | refine hQ11 _ _ _ ?_
    | refine dF (id:=1) [0,1,2,3,4,5] [(1,2)] ?_)
  ·by_cases h2:w_kind = 2
   ·have hn:=e3 h2
    subst h2
    subst hn
    have hk:kindV 2 = 2:=rfl
    rw [hk] at hk1 hk2
    have hr:=rord_c w_n
    have hown:memL S.own 110 = false:=by kernel_rfl
    refine W_pure hp (by simp [pureV,pureS,pureL]) (apart_does rfl rfl (by kernel_rfl) Tryz.func110 rfl (by simp [Tryz.f110]) ?_)
    simp only [Tryz.f110]
    refine hide ?_;intro Q12 hQ12
    repeat' (first
     | (replace hQ12:=hQ12;simp [hk1,hk2,hr,outV,frzV,frzS,pureS,K_own,hown])
     | refine hQ12 _ _ _ ?_
     | refine dF (id:=1) [0,1,2,3,4,5] [(1,2)] ?_)
   ·have hk:kindV w_kind = 0:=by simp [kindV,h1,h2]
    rw [hk] at hk1 hk2
    have hown:memL S.own 110 = false:=by kernel_rfl
    refine W_pure hp (by simp [pureV,pureS,pureL]) (apart_does rfl rfl (by kernel_rfl) Tryz.func110 rfl (by simp [Tryz.f110]) ?_)
    simp only [Tryz.f110]
    refine hide ?_;intro Q13 hQ13
    repeat' (first
     | (replace hQ13:=hQ13;simp [hk1,hk2,outV,frzV,frzS,pureS,K_own,hown])
     | refine hQ13 _ _ _ ?_
     | refine dF (id:=1) [0,1,2,3,4,5] [(1,2)] ?_)
 have hown:memL S.own 67 = false:=by kernel_rfl
 refine W_pure hp (by simp [pureV,pureS,pureL]) (apart_does rfl rfl (by kernel_rfl) Tryz.func67 rfl (by simp [Tryz.f67]) ?_)
 simp only [Tryz.f67]
 refine hide ?_;intro Q14 hQ14
 repeat' (first
  | (replace hQ14:=hQ14;simp [ho,outV,frzV,frzS,pureS,K_own,hown])
  | refine hQ14 _ _ _ ?_)
structure EqX (v w:Version):Prop where
 t:w.time = v.time
 v:EqV v.v w.v
theorem rsameRow_c {o o':Row} {L:List Column} (e f:Column→Column) (V:Column→List Version) (d g:Version→Version) (ho1:ls o = L.map e) (ho:ls o' = L.map f) (hf:∀ c ∈ L,(f c).name = (e c).name∧ls (e c).l = (V c).map d∧ls (f c).l = (V c).map g∧(V c).length < 1000000∧∀ x ∈ V c,EqX (d x) (g x)) (hl:L.length < 1000000) (h:H) :
  W K 36 [.agg (encRow o),.agg (encRow o')] h = some (.ret (.one (.bool true)) h):=by
 simp only [encRow]
 have hl1:∀ (u:TypeId) (h':H),lenA (sl 2 encColumn o) (some (.slice u)) h' = some (one (ii L.length) h'):=fun u h'=>by rw [lenA_sl,ho1,List.length_map]
 have hl2:∀ (u:TypeId) (h':H),lenA (sl 2 encColumn o') (some (.slice u)) h' = some (one (ii L.length) h'):=fun u h'=>by rw [lenA_sl,ho,List.length_map]
 obtain ⟨Z1,hZ1⟩:∃ Z,sl 2 encColumn o = Z:=⟨_,rfl⟩
 obtain ⟨Z2,hZ2⟩:∃ Z,sl 2 encColumn o' = Z:=⟨_,rfl⟩
 rw [hZ1] at hl1 ⊢
 rw [hZ2] at hl2 ⊢
 have hp1:pureS false Z1 = true:=by rw [← hZ1];exact pure_columns _
 have hp2:pureS false Z2 = true:=by rw [← hZ2];exact pure_columns _
 have hown:memL S.own 36 = false:=by kernel_rfl
 refine W_pure hp (by simp [pureV,hp1,hp2,pureL]) (apart_does rfl rfl (by kernel_rfl) Tryz.func36 rfl (by simp [Tryz.f36]) ?_)
 simp only [Tryz.f36]
 refine hide ?_;intro Q15 hQ15
 repeat' (first
  | (replace hQ15:=hQ15;simp [hl1,hl2])
  | refine hQ15 _ _ _ ?_
  | (first | refine dF (id:=6) [0,1,2,3,4,5,6,7,8,9,10,11,12,13,14,15,16,17,18,19,20,21,22,23,24,25,26,27,28,29] [] ?_ | refine dF (id:=11) [0,1,2,3,4,5,6,7,8,9,10,11,12,13,14,15,16,17,18,19,20,21,22,23,24,25,26,27,28,29,30,31,32,33,34,35,36,37,38,39,40,41,42,43,44] [] ?_))
 refine does_each hp L (fun a r fr hh=>(2 ≤ hh.next∧hh.f 0 = some ⟨0,[1],true,[Z1]⟩∧hh.f 1 = some ⟨0,[1],true,[Z2]⟩)∧∃ j:Nat→AV,fr = (j 0::j 1::(.one (.ptr 0 0 0))::(.one (.ptr 1 0 0))::j 4::(.one (ii a.length))::j 6::j 7::j 8::j 9::j 10::j 11::j 12::j 13::j 14::j 15::j 16::j 17::j 18::j 19::j 20::j 21::j 22::j 23::j 24::j 25::j 26::j 27::j 28::j 29::j 30::j 31::j 32::j 33::j 34::j 35::j 36::j 37::j 38::j 39::j 40::j 41::j 42::j 43::j 44::j 45::j 46::j 47::j 48::j 49::j 50::j 51::j 52::j 53::j 54::j 55::j 56::j 57::j 58::j 59::j 60::j 61::j 62::j 63::j 64::j 65::j 66::j 67::j 68::j 69::j 70::j 71::j 72::j 73::j 74::j 75::j 76::j 77::j 78::j 79::j 80::j 81::j 82::j 83::j 84::j 85::j 86::j 87::j 88::j 89::j 90::j 91::j 92::j 93::j 94::j 95::j 96::j 97::j 98::j 99::j 100::j 101::j 102::j 103::j 104::j 105::j 106::[])) ?_ ?_ _ _ ⟨⟨by simp,by simp,by simp⟩,ex_get' (by simp)⟩
 ·rintro a x r fr hh hll ⟨⟨i0,i1,i2⟩,j,rfl⟩
  have hil:a.length < L.length:=by rw [hll];simp
  obtain ⟨x1,x0,x2,x3,x4⟩:=hf x (by rw [hll];simp)
  have ho3:ls o = a.map e++e x::r.map e:=by rw [ho1,hll];simp
  have hso:some (ls o) = o:=by rw [ho3];exact (ls_cons ho3).symm
  have ho2:ls o' = a.map f++f x::r.map f:=by rw [ho,hll];simp
  have hso':some (ls o') = o':=by rw [ho2];exact (ls_cons ho2).symm
  have hix1:=index_sl (P:=Tryz.prog) (enc:=encColumn) (s:=2) (l:=ls o) (i:=a.length) Tryz.underlying79 (by simp) (by omega) (by rw [ho1,List.length_map];exact hil)
  rw [hso,hZ1] at hix1
  have hix2:=index_sl (P:=Tryz.prog) (enc:=encColumn) (s:=2) (l:=ls o') (i:=a.length) Tryz.underlying79 (by simp) (by omega) (by rw [ho,List.length_map];exact hil)
  rw [hso',hZ2] at hix2
  have r10:=sub_flat (enc:=encColumn) (s:=2) len_column (a.map e) (e x) (r.map e) (o:=0) (n:=1) (by omega)
  have r11:=sub_flat (enc:=encColumn) (s:=2) len_column (a.map e) (e x) (r.map e) (o:=1) (n:=1) (by omega)
  have r20:=sub_flat (enc:=encColumn) (s:=2) len_column (a.map f) (f x) (r.map f) (o:=0) (n:=1) (by omega)
  have r21:=sub_flat (enc:=encColumn) (s:=2) len_column (a.map f) (f x) (r.map f) (o:=1) (n:=1) (by omega)
  rw [← ho3,List.length_map] at r10 r11
  rw [← ho2,List.length_map] at r20 r21
  simp only [Nat.add_zero] at r10 r20
  obtain ⟨⟨xn,xl⟩,hx⟩:∃ y,e x = y:=⟨_,rfl⟩
  obtain ⟨⟨yn,yl⟩,hy⟩:∃ y,f x = y:=⟨_,rfl⟩
  rw [hx] at r10 r11 x1 x0
  rw [hy] at r20 r21 x1 x2
  simp only at x1 x0 x2
  subst x1
  obtain ⟨VX,hVX⟩:∃ v,V x = v:=⟨_,rfl⟩
  rw [hVX] at x0 x2 x3 x4
  replace r10:sub (cat encColumn (ls o)) (a.length * 2) 1 = some [.str yn]:=r10
  replace r11:sub (cat encColumn (ls o)) (a.length * 2 + 1) 1 = some [sl 4 encVersion xl]:=r11
  replace r20:sub (cat encColumn (ls o')) (a.length * 2) 1 = some [.str yn]:=r20
  replace r21:sub (cat encColumn (ls o')) (a.length * 2 + 1) 1 = some [sl 4 encVersion yl]:=r21
  have hw:IntKind.i64.wrap ((a.length:Int) + 1) = ((a++[x]).length:Int):=by rw [step_len];exact step_wrap (by omega)
  have hlx:∀ (u:TypeId) (h':H),lenA (sl 4 encVersion xl) (some (.slice u)) h' = some (one (ii VX.length) h'):=fun u h'=>by rw [lenA_sl,x0,List.length_map]
  have hly:∀ (u:TypeId) (h':H),lenA (sl 4 encVersion yl) (some (.slice u)) h' = some (one (ii VX.length) h'):=fun u h'=>by rw [lenA_sl,x2,List.length_map]
  obtain ⟨V1,hV1⟩:∃ Z,sl 4 encVersion xl = Z:=⟨_,rfl⟩
  obtain ⟨V2,hV2⟩:∃ Z,sl 4 encVersion yl = Z:=⟨_,rfl⟩
  rw [hV1] at hlx r11
  rw [hV2] at hly r21
  generalize hA2:a++[x] = A2 at *
  generalize hC1:cat encColumn (ls o) = C1 at *
  generalize hC2:cat encColumn (ls o') = C2 at *
  first | (refine hide ?_;intro Q16 hQ16) | have hQ16:=True.intro
  repeat' (first
   | (replace hQ16:=hQ16;simp [strOp,hl1,i1,i2,hix1,hix2,r10,r11,r20,r21,hlx,hly,hil])
   | (refine hQ16 _ _ _ ?_;clear hQ16 Q16;first | simp only [] | simp [strOp,hl1,hl2,i1,i2,hix1,hix2,r10,r11,r20,r21,hlx,hly,hil,outV,frzV,frzS,frzS_pure,frzP,pureS,pureL,K_own,hown] | skip)
   | (refine hadQ (by assumption) ?_;(try clear hQ16);first | simp only [] | simp [strOp,hl1,hl2,i1,i2,hix1,hix2,r10,r11,r20,r21,hlx,hly,hil,outV,frzV,frzS,frzS_pure,frzP,pureS,pureL,K_own,hown] | skip)
   | ((fail_if_success replace hQ16:=hQ16);(first | refine hide ?_ | refine hideS ?_ | refine hideB ?_);intro Q16 hQ16)
   | (first | refine dF (id:=6) [0,1,2,3,4,5,6,7,8,9,10,11,12,13,14,15,16,17,18,19,20,21,22,23,24,25,26,27,28,29] [] ?_ | refine dF (id:=11) [0,1,2,3,4,5,6,7,8,9,10,11,12,13,14,15,16,17,18,19,20,21,22,23,24,25,26,27,28,29,30,31,32,33,34,35,36,37,38,39,40,41,42,43,44] [] ?_))
  refine does_each hp VX (fun b q fr h2=>(h2 = hh)∧∃ j:Nat→AV,fr = (j 0::j 1::(.one (.ptr 0 0 0))::(.one (.ptr 1 0 0))::j 4::(.one (ii a.length))::(.one (ii b.length))::j 7::j 8::j 9::j 10::j 11::j 12::j 13::j 14::j 15::j 16::j 17::j 18::j 19::j 20::j 21::j 22::j 23::j 24::j 25::j 26::j 27::j 28::j 29::j 30::j 31::j 32::j 33::j 34::j 35::j 36::j 37::j 38::j 39::j 40::j 41::j 42::j 43::j 44::j 45::j 46::j 47::j 48::j 49::j 50::j 51::j 52::j 53::j 54::j 55::j 56::j 57::j 58::j 59::j 60::j 61::j 62::j 63::j 64::j 65::j 66::j 67::j 68::j 69::j 70::j 71::j 72::j 73::j 74::j 75::j 76::j 77::j 78::j 79::j 80::j 81::j 82::j 83::j 84::j 85::j 86::j 87::j 88::j 89::j 90::j 91::j 92::j 93::j 94::j 95::j 96::j 97::j 98::j 99::j 100::j 101::j 102::j 103::j 104::j 105::j 106::[])) ?_ ?_ _ _ ?_
  rotate_left 2
  ·exact ⟨rfl,ex_get' (by simp)⟩
  ·rintro b y q fr h2 hl2' ⟨rfl,j',rfl⟩
   have hil2:b.length < VX.length:=by rw [hl2'];simp
   have y4:=x4 y (by rw [hl2'];simp)
   have hxl:ls xl = b.map d++d y::q.map d:=by rw [x0,hl2'];simp
   have hsx:some (ls xl) = xl:=by rw [hxl];exact (ls_cons hxl).symm
   have hyl:ls yl = b.map g++g y::q.map g:=by rw [x2,hl2'];simp
   have hsy:some (ls yl) = yl:=by rw [hyl];exact (ls_cons hyl).symm
   have jx1:=index_sl (P:=Tryz.prog) (enc:=encVersion) (s:=4) (l:=ls xl) (i:=b.length) Tryz.underlying89 (by simp) (by omega) (by rw [x0,List.length_map];exact hil2)
   rw [hsx,hV1] at jx1
   have jx2:=index_sl (P:=Tryz.prog) (enc:=encVersion) (s:=4) (l:=ls yl) (i:=b.length) Tryz.underlying89 (by simp) (by omega) (by rw [x2,List.length_map];exact hil2)
   rw [hsy,hV2] at jx2
   have v10:=sub_flat (enc:=encVersion) (s:=4) len_version (b.map d) (d y) (q.map d) (o:=0) (n:=1) (by omega)
   have v11:=sub_flat (enc:=encVersion) (s:=4) len_version (b.map d) (d y) (q.map d) (o:=1) (n:=3) (by omega)
   have v20:=sub_flat (enc:=encVersion) (s:=4) len_version (b.map g) (g y) (q.map g) (o:=0) (n:=1) (by omega)
   have v21:=sub_flat (enc:=encVersion) (s:=4) len_version (b.map g) (g y) (q.map g) (o:=1) (n:=3) (by omega)
   rw [← hxl,List.length_map] at v10 v11
   rw [← hyl,List.length_map] at v20 v21
   simp only [Nat.add_zero] at v10 v20
   have ht:=y4.t
   have hS:=rsameV_c y4.v
   obtain ⟨⟨yt,yv⟩,hyd⟩:∃ z,d y = z:=⟨_,rfl⟩
   obtain ⟨⟨zt,zv⟩,hz⟩:∃ z,g y = z:=⟨_,rfl⟩
   rw [hyd] at v10 v11 ht hS
   rw [hz] at v20 v21 ht hS
   simp only at ht
   subst ht
   replace v10:sub (cat encVersion (ls xl)) (b.length * 4) 1 = some [ii zt]:=v10
   replace v11:sub (cat encVersion (ls xl)) (b.length * 4 + 1) 3 = some (encV yv):=v11
   replace v20:sub (cat encVersion (ls yl)) (b.length * 4) 1 = some [ii zt]:=v20
   replace v21:sub (cat encVersion (ls yl)) (b.length * 4 + 1) 3 = some (encV zv):=v21
   simp only at hS
   have hw2:IntKind.i64.wrap ((b.length:Int) + 1) = ((b++[y]).length:Int):=by rw [step_len];exact step_wrap (by omega)
   generalize hB2:b++[y] = B2 at *
   generalize hD1:cat encVersion (ls xl) = D1 at *
   generalize hD2:cat encVersion (ls yl) = D2 at *
   first | (refine hide ?_;intro Q17 hQ17) | have hQ17:=True.intro
   repeat' (first
    | (replace hQ17:=hQ17;simp [i1,i2,hix1,hix2,r11,r21,hlx,hil2,jx1,jx2,v10,v11,v20,v21,hS,hw2])
    | (refine hQ17 _ _ _ ?_;clear hQ17 Q17;first | simp only [] | simp [hl1,hl2,i1,i2,hix1,hix2,r10,r11,r20,r21,hlx,hly,hil2,jx1,jx2,v10,v11,v20,v21,hS,hw2,outV,frzV,frzS,frzS_pure,frzP,pureS,pureL,K_own,hown] | skip)
    | (refine hadQ (by assumption) ?_;(try clear hQ17);first | simp only [] | simp [hl1,hl2,i1,i2,hix1,hix2,r10,r11,r20,r21,hlx,hly,hil2,jx1,jx2,v10,v11,v20,v21,hS,hw2,outV,frzV,frzS,frzS_pure,frzP,pureS,pureL,K_own,hown] | skip)
    | ((fail_if_success replace hQ17:=hQ17);(first | refine hide ?_ | refine hideS ?_ | refine hideB ?_);intro Q17 hQ17)
    | (first | refine dF (id:=6) [0,1,2,3,4,5,6,7,8,9,10,11,12,13,14,15,16,17,18,19,20,21,22,23,24,25,26,27,28,29] [] ?_ | refine dF (id:=11) [0,1,2,3,4,5,6,7,8,9,10,11,12,13,14,15,16,17,18,19,20,21,22,23,24,25,26,27,28,29,30,31,32,33,34,35,36,37,38,39,40,41,42,43,44] [] ?_))
   exact ⟨trivial,ex_get' (by simp)⟩
  ·rintro fr h2 ⟨rfl,j',rfl⟩
   first | (refine hide ?_;intro Q18 hQ18) | have hQ18:=True.intro
   repeat' (first
    | (replace hQ18:=hQ18;simp [i1,hix1,r11,hlx,hw])
    | (refine hQ18 _ _ _ ?_;clear hQ18 Q18;first | simp only [] | simp [i1,i2,hix1,r11,hlx,hw,outV,frzV,frzS,frzS_pure,frzP,pureS,pureL,K_own,hown] | skip)
    | (refine hadQ (by assumption) ?_;(try clear hQ18);first | simp only [] | simp [i1,i2,hix1,r11,hlx,hw,outV,frzV,frzS,frzS_pure,frzP,pureS,pureL,K_own,hown] | skip)
    | ((fail_if_success replace hQ18:=hQ18);(first | refine hide ?_ | refine hideS ?_ | refine hideB ?_);intro Q18 hQ18)
    | (first | refine dF (id:=6) [0,1,2,3,4,5,6,7,8,9,10,11,12,13,14,15,16,17,18,19,20,21,22,23,24,25,26,27,28,29] [] ?_ | refine dF (id:=11) [0,1,2,3,4,5,6,7,8,9,10,11,12,13,14,15,16,17,18,19,20,21,22,23,24,25,26,27,28,29,30,31,32,33,34,35,36,37,38,39,40,41,42,43,44] [] ?_))
   exact ⟨⟨i0,i1,i2⟩,ex_get' (by simp)⟩
 ·rintro fr hh ⟨⟨i0,i1,i2⟩,j,rfl⟩
  first | (refine hide ?_;intro Q19 hQ19) | have hQ19:=True.intro
  repeat' (first
   | (replace hQ19:=hQ19;simp [hl1,i1])
   | (refine hQ19 _ _ _ ?_;clear hQ19 Q19;first | simp only [] | simp [hl1,i1,outV,frzV,frzS,frzS_pure,frzP,pureS,pureL,K_own,hown] | skip)
   | (refine hadQ (by assumption) ?_;(try clear hQ19);first | simp only [] | simp [outV,frzV,frzS,pureS,K_own,hown] | skip)
   | ((fail_if_success replace hQ19:=hQ19);(first | refine hide ?_ | refine hideS ?_ | refine hideB ?_);intro Q19 hQ19)
   | (first | refine dF (id:=6) [0,1,2,3,4,5,6,7,8,9,10,11,12,13,14,15,16,17,18,19,20,21,22,23,24,25,26,27,28,29] [] ?_ | refine dF (id:=11) [0,1,2,3,4,5,6,7,8,9,10,11,12,13,14,15,16,17,18,19,20,21,22,23,24,25,26,27,28,29,30,31,32,33,34,35,36,37,38,39,40,41,42,43,44] [] ?_))
theorem refHas_c (lo hi n:BL) (h:H):W K 19 [.agg [.str lo,.str hi],.one (.str n)] h = some (.ret (.one (.bool (hasName ⟨lo,hi⟩ n))) h):=by
 have hown:memL S.own 19 = false:=by kernel_rfl
 refine W_pure hp (by simp [pureV,pureS,pureL]) (apart_does rfl rfl (by kernel_rfl) Tryz.func19 rfl (by simp [Tryz.f19]) ?_)
 simp only [Tryz.f19]
 refine hide ?_;intro Q1 hQ1
 repeat' (first
  | (replace hQ1:=hQ1;simp [strOp])
  | (refine hQ1 _ _ _ ?_;clear hQ1 Q1;first | simp only [] | simp [hasName,blt,outV,frzV,frzS,pureS,K_own,hown])
  | (first | apply cF | apply wN | apply wS) <;> intro hcnd <;> (try simp only [hcnd]) <;> (try simp [-List.isEmpty_iff,-List.isEmpty_eq_false_iff] at hcnd))
 all_goals first | done | (simp_all [-List.isEmpty_iff,-List.isEmpty_eq_false_iff,← List.isEmpty_iff];done) | (simp_all;done) | (simp_all;omega) | (simp;omega) | (intros;omega) | (intros;simp only [decide_eq_true_eq] at *;omega) | (intros;simp at *;omega) | skip
structure EqN (x y:Named):Prop where
 n:y.name = x.name
 r:∀ h,W K 36 [.agg (encRow x.r),.agg (encRow y.r)] h = some (.ret (.one (.bool true)) h)
theorem rsameNm_c {o o':Option (List Named)} {L:List Named} (E F:Named→Named) (ho1:ls o = L.map E) (ho:ls o' = L.map F) (hF:∀ x ∈ L,EqN (E x) (F x)) (hl:L.length < 1000000) (h:H) :
  W K 13 [.one (sl 2 encNamed o),.one (sl 2 encNamed o')] h = some (.ret (.one (.bool true)) h):=by
 have hl1:∀ (u:TypeId) (h':H),lenA (sl 2 encNamed o) (some (.slice u)) h' = some (one (ii L.length) h'):=fun u h'=>by rw [lenA_sl,ho1,List.length_map]
 have hl2:∀ (u:TypeId) (h':H),lenA (sl 2 encNamed o') (some (.slice u)) h' = some (one (ii L.length) h'):=fun u h'=>by rw [lenA_sl,ho,List.length_map]
 obtain ⟨Z1,hZ1⟩:∃ Z,sl 2 encNamed o = Z:=⟨_,rfl⟩
 obtain ⟨Z2,hZ2⟩:∃ Z,sl 2 encNamed o' = Z:=⟨_,rfl⟩
 rw [hZ1] at hl1 ⊢
 rw [hZ2] at hl2 ⊢
 have hp1:pureS false Z1 = true:=by rw [← hZ1];exact pure_nameds _
 have hp2:pureS false Z2 = true:=by rw [← hZ2];exact pure_nameds _
 have hown:memL S.own 13 = false:=by kernel_rfl
 refine W_pure hp (by simp [pureV,hp1,hp2]) (apart_does rfl rfl (by kernel_rfl) Tryz.func13 rfl (by simp [Tryz.f13]) ?_)
 simp only [Tryz.f13]
 refine hide ?_;intro Q2 hQ2
 repeat' (first
  | (replace hQ2:=hQ2;simp [hl1,hl2])
  | refine hQ2 _ _ _ ?_
  | refine dF (id:=6) [0,1,2,3,4,5,6,7,8,9,10,11,12,13,14,15,16,17,18,19,20,21,22,23,24] [] ?_)
 refine does_each hp L (fun a r fr hh=>True∧∃ j:Nat→AV,fr = ((.one Z1)::(.one Z2)::j 2::j 3::j 4::(.one (ii a.length))::j 6::j 7::j 8::j 9::j 10::j 11::j 12::j 13::j 14::j 15::j 16::j 17::j 18::j 19::j 20::j 21::j 22::j 23::j 24::j 25::j 26::j 27::j 28::j 29::j 30::j 31::j 32::j 33::j 34::j 35::j 36::j 37::j 38::j 39::j 40::j 41::[])) ?_ ?_ _ _ ⟨trivial,ex_get' (by simp)⟩
 ·rintro a x r fr hh hll ⟨_,j,rfl⟩
  have hil:a.length < L.length:=by rw [hll];simp
  obtain ⟨x1,x2⟩:=hF x (by rw [hll];simp)
  have ho3:ls o = a.map E++E x::r.map E:=by rw [ho1,hll];simp
  have hso:some (ls o) = o:=by rw [ho3];exact (ls_cons ho3).symm
  have ho2:ls o' = a.map F++F x::r.map F:=by rw [ho,hll];simp
  have hso':some (ls o') = o':=by rw [ho2];exact (ls_cons ho2).symm
  have hix1:=index_sl (P:=Tryz.prog) (enc:=encNamed) (s:=2) (l:=ls o) (i:=a.length) Tryz.underlying48 (by simp) (by omega) (by rw [ho1,List.length_map];exact hil)
  rw [hso,hZ1] at hix1
  have hix2:=index_sl (P:=Tryz.prog) (enc:=encNamed) (s:=2) (l:=ls o') (i:=a.length) Tryz.underlying48 (by simp) (by omega) (by rw [ho,List.length_map];exact hil)
  rw [hso',hZ2] at hix2
  have r10:=sub_flat (enc:=encNamed) (s:=2) len_named (a.map E) (E x) (r.map E) (o:=0) (n:=1) (by omega)
  have r11:=sub_flat (enc:=encNamed) (s:=2) len_named (a.map E) (E x) (r.map E) (o:=1) (n:=1) (by omega)
  have r20:=sub_flat (enc:=encNamed) (s:=2) len_named (a.map F) (F x) (r.map F) (o:=0) (n:=1) (by omega)
  have r21:=sub_flat (enc:=encNamed) (s:=2) len_named (a.map F) (F x) (r.map F) (o:=1) (n:=1) (by omega)
  rw [← ho3,List.length_map] at r10 r11
  rw [← ho2,List.length_map] at r20 r21
  simp only [Nat.add_zero] at r10 r20
  obtain ⟨⟨xn,xr⟩,hx⟩:∃ y,E x = y:=⟨_,rfl⟩
  obtain ⟨⟨yn,yr⟩,hy⟩:∃ y,F x = y:=⟨_,rfl⟩
  rw [hx] at r10 r11 x1 x2
  rw [hy] at r20 r21 x1 x2
  simp only at x1 x2
  subst x1
  replace r10:sub (cat encNamed (ls o)) (a.length * 2) 1 = some [.str yn]:=r10
  replace r11:sub (cat encNamed (ls o)) (a.length * 2 + 1) 1 = some (encRow xr):=r11
  replace r20:sub (cat encNamed (ls o')) (a.length * 2) 1 = some [.str yn]:=r20
  replace r21:sub (cat encNamed (ls o')) (a.length * 2 + 1) 1 = some (encRow yr):=r21
  have hw:IntKind.i64.wrap ((a.length:Int) + 1) = ((a++[x]).length:Int):=by rw [step_len];exact step_wrap (by omega)
  generalize hA2:a++[x] = A2 at *
  generalize hC1:cat encNamed (ls o) = C1 at *
  generalize hC2:cat encNamed (ls o') = C2 at *
  generalize encRow xr = X1 at *
  generalize encRow yr = X2 at *
  first | (refine hide ?_;intro Q3 hQ3) | have hQ3:=True.intro
  repeat' (first
   | (replace hQ3:=hQ3;simp [strOp,hl1,hix1,hix2,r10,r11,r20,r21,hil,x2,hw])
   | (refine hQ3 _ _ _ ?_;clear hQ3 Q3;first | simp only [] | simp [strOp,hl1,hl2,hix1,hix2,r10,r11,r20,r21,hil,x2,hw,outV,frzV,frzS,frzS_pure,frzP,pureS,pureL,K_own,hown] | skip)
   | (refine hadQ (by assumption) ?_;(try clear hQ3);first | simp only [] | simp [strOp,hl1,hl2,hix1,hix2,r10,r11,r20,r21,hil,x2,hw,outV,frzV,frzS,frzS_pure,frzP,pureS,pureL,K_own,hown] | skip)
   | ((fail_if_success replace hQ3:=hQ3);(first | refine hide ?_ | refine hideS ?_ | refine hideB ?_);intro Q3 hQ3)
   | refine dF (id:=6) [0,1,2,3,4,5,6,7,8,9,10,11,12,13,14,15,16,17,18,19,20,21,22,23,24] [] ?_)
  exact ⟨trivial,ex_get' (by simp)⟩
 ·rintro fr hh ⟨_,j,rfl⟩
  first | (refine hide ?_;intro Q4 hQ4) | have hQ4:=True.intro
  repeat' (first
   | (replace hQ4:=hQ4;simp [hl1])
   | (refine hQ4 _ _ _ ?_;clear hQ4 Q4;first | simp only [] | simp [hl1,outV,frzV,frzS,frzS_pure,frzP,pureS,pureL,K_own,hown] | skip)
   | (refine hadQ (by assumption) ?_;(try clear hQ4);first | simp only [] | simp [outV,frzV,frzS,pureS,K_own,hown] | skip)
   | ((fail_if_success replace hQ4:=hQ4);(first | refine hide ?_ | refine hideS ?_ | refine hideB ?_);intro Q4 hQ4)
   | refine dF (id:=6) [0,1,2,3,4,5,6,7,8,9,10,11,12,13,14,15,16,17,18,19,20,21,22,23,24] [] ?_)
theorem eqN_refl (x:Named) (hx:rowB x.r = true):EqN x x:=by
 refine ⟨rfl,fun h=>rsameRow_c (L:=ls x.r) id id (fun c=>ls c.l) id id (by simp) (by simp) (fun c hc=>⟨rfl,by simp,by simp, ?_,fun y _=>⟨rfl,⟨rfl,fun _=>rfl,fun _=>rfl⟩⟩⟩) ?_ h⟩
 ·have:=(col_lims hx).2 c hc;omega
 ·have:=(col_lims hx).1;omega
theorem EqV.symm {v w:Wm.Value} (e:EqV v w):EqV w v:=⟨e.k.symm,fun h=>(e.b (by rw [← e.k];exact h)).symm,fun h=>(e.n (by rw [← e.k];exact h)).symm⟩
theorem row_B {l:List Named} (ok:TblOk l) {x:Named} (hx:x ∈ l):rowB x.r = true:=by have:=rowCopy_ok x.r;rwa [(ok.row x hx).1] at this
theorem merge_step {h:H} {s:Nat} {sp:AS} {l1 l2:List Pt} {p p2:Pt} {last code:Int} {R:List Named} (w:StAt h s sp (l1++p::p2::l2) last code) (hn:(l1++p::p2::l2).length ≤ 16) (I:SpI ((l1++p::p2::l2).map (·.t)) R) (client seq:Int)
  {g:Int} (hg:last < g) (hg1:1 ≤ g∧g ≤ 1073741824) :
  ∃ h' sp' pa,W K 12 [.one (.ptr s 0 0),.one (ii client),.one (ii seq),.agg (cmdC 6 g p.t.span.lo p2.t.span.hi p2.t.span.lo)] h = some (.ret (.agg (encAnswer (noA 0))) h')∧StAt h' s sp' (l1++pa::l2) g 0∧SpI ((l1++pa::l2).map (·.t)) R∧pa.t = tm p.t p2.t g∧Fp h h' (fpS s sp (l1++p::p2::l2)) (fpS s sp' (l1++pa::l2)):=by
 have hpo:=I.ok p.t (by simp)
 have hpo2:=I.ok p2.t (by simp)
 have hc:=pl_chain I
 obtain ⟨I2,hT,hso,hsx⟩:=merge_plain (l1:=l1.map (·.t)) (l2:=l2.map (·.t)) (x:=p.t) (y:=p2.t) (by simpa using I) g
 have hi:idx (fun q:Pt=>liveB ⟨p.t.span.lo,p2.t.span.lo⟩ q.t) (l1++p::p2::l2) = l1.length:=idx_hit (fun y hy=>live_not (y:=p.t.span) (hc l1 p (p2::l2) rfl y hy).1) (by rw [← hsx];simp [liveB,hpo.fr])
 have hj:idx (fun q:Pt=>liveB ⟨p2.t.span.lo,p2.t.span.hi⟩ q.t) (l1++p::p2::l2) = (l1.length + 1:Nat):=by
  have e:l1++p::p2::l2 = (l1++[p])++p2::l2:=by simp
  rw [e,idx_hit (fun y hy=>live_not (y:=p2.t.span) (hc (l1++[p]) p2 l2 e y hy).1) (by simp [liveB,hpo2.fr])]
  simp
 obtain ⟨B,hB⟩:∃ B:Blk,B = ⟨0,[19],true,cmdC 6 g p.t.span.lo p2.t.span.hi p2.t.span.lo⟩:=⟨_,rfl⟩
 have w2:=(w.new B).new zAns
 obtain ⟨h3,sp',ps',r,e3,w3,g3,hR⟩:=change_c 6 0 [] [] false false [] 0 none 0 none 0 p.t.span.lo p2.t.span.hi g p2.t.span.lo 0 0 none w2 hg 82 (.inr (.inr ⟨rfl,rfl⟩)) (fun ps' r=>r = 0∧∃ pa,ps' = l1++pa::l2∧pa.t = tm p.t p2.t g)
  fun h2 wh gh=>by
   obtain ⟨h3,sp',pa,e,tA,w3,g3⟩:=merge_ok 6 0 [] [] false false [] 0 none 0 none 0 p.t.span.lo p2.t.span.hi g p2.t.span.lo 0 0 none wh (by omega) hpo.rows hpo.cache hpo2.rows hpo2.cache hi hj hso hT
   exact ⟨h3,sp',_,0,e,w3,g3,by simp at hn ⊢;omega,rfl,pa,rfl,tA⟩
 obtain ⟨rfl,pa,rfl,tA⟩:=hR
 have I3:SpI ((l1++pa::l2).map (·.t)) R:=by simp only [List.map_append,List.map_cons,tA];exact I2
 have hs:isort pLt (l1++pa::l2) = l1++pa::l2:=isort_self fun a x b e y hy=>(pl_chain I3 a x b e y hy).2
 rw [hs] at w3 g3
 rw [hB] at e3 g3
 obtain ⟨hz,hk'⟩:=do_around w w3 g3
 have e:=do_change client seq 6 0 [] [] false false [] 0 none 0 none 0 p.t.span.lo p2.t.span.hi g p2.t.span.lo 0 0 none (.inr (.inr rfl)) (by simp only [cmdOk,Int.reduceEq,if_false,or_self,or_true,if_true,hso];simp [genOk];omega) (by simp) e3 hz
 exact ⟨_,sp',pa,e,(hk' _).1,I3,tA,(hk' _).2⟩
structure One (p:Pt):Prop where
 sp:p.t.span = ⟨[],[]⟩
 fr:p.t.fr = false
 rows:TblOk p.t.rows
 cache:CchOk p.t.cache
theorem has_all (n:BL):hasName ⟨[],[]⟩ n = true:=by simp [hasName,blt]
theorem tbl_nil:TblOk []:=⟨rfl,by simp,by simp,by simp⟩
theorem cch_nil:CchOk []:=.of rfl (by simp)
theorem one_spi {p:Pt} (o:One p):SpI [p.t] p.t.rows:=by
 refine ⟨o.sp,fun t ht=>?_,by simp,o.rows⟩
 rw [List.mem_singleton.1 ht]
 exact ⟨by rw [o.sp];rfl,o.fr,o.rows,o.cache,fun x _=>by rw [o.sp];exact has_all _⟩
theorem do_one {h:H} {s:Nat} {sp:AS} {p:Pt} {last code:Int} (w:StAt h s sp [p] last code) (po:One p) (client seq:Int) (o_kind:Int) (o_row:BL) (o_hi:BL) (o_cond_has:Bool) (o_cond_want:Bool) (o_cond_col:BL) (o_cond_v_kind:Int) (o_cond_v_b:Option BL) (o_cond_v_n:Nat) (o_l:Option (List Change)) (o_most:Int) (oi:OpIs ⟨o_kind,o_row,o_hi,⟨o_cond_has,o_cond_want,o_cond_col,⟨o_cond_v_kind,o_cond_v_b,o_cond_v_n⟩⟩,o_l,o_most⟩) (hc:0 ≤ client∧client ≤ 255) (hs:1 ≤ seq∧seq ≤ 1073741824) (hfr:∀ x ∈ p.t.cache,x.client = client→x.seq < seq) :
  ∃ h' p',W K 12 [.one (.ptr s 0 0),.one (ii client),.one (ii seq),.agg [ii 1,ii o_kind,.str o_row,.str o_hi,.bool o_cond_has,.bool o_cond_want,.str o_cond_col,ii o_cond_v_kind,bs o_cond_v_b,.flt o_cond_v_n,sl 6 encChange o_l,ii o_most,.str [],.str [],ii 0,.str [],ii 0,ii 0,.nilslc]] h = some (.ret (.agg (encAnswer (opT ⟨[],[]⟩ p.t.rows ⟨o_kind,o_row,o_hi,⟨o_cond_has,o_cond_want,o_cond_col,⟨o_cond_v_kind,o_cond_v_b,o_cond_v_n⟩⟩,o_l,o_most⟩).1)) h') ∧
   p'.t = ⟨⟨[],[]⟩,p.t.gen,false,(opT ⟨[],[]⟩ p.t.rows ⟨o_kind,o_row,o_hi,⟨o_cond_has,o_cond_want,o_cond_col,⟨o_cond_v_kind,o_cond_v_b,o_cond_v_n⟩⟩,o_l,o_most⟩).2,(keepT p.t.cache client seq (some (ansB (opT ⟨[],[]⟩ p.t.rows ⟨o_kind,o_row,o_hi,⟨o_cond_has,o_cond_want,o_cond_col,⟨o_cond_v_kind,o_cond_v_b,o_cond_v_n⟩⟩,o_l,o_most⟩).1))).1⟩∧One p'∧StAt h' s sp [p'] last code∧Fp h h' (fpS s sp [p]) (fpS s sp [p']):=by
 have w':StAt h s sp ([]++p::[]) last code:=w
 have hf:findP o_row none ([]++p::[]) = some p:=by simp [findP,po.sp,has_all]
 obtain ⟨h',p',e,e1,e2,e3,e4⟩:=do_new w' (by simp) client seq o_kind o_row o_hi o_cond_has o_cond_want o_cond_col o_cond_v_kind o_cond_v_b o_cond_v_n o_l o_most oi.ok (by have:=oi.n;simp only at this;omega) (by have:=oi.cv;simp only at this;omega) hf (by rw [po.sp];exact has_all _) po.fr (by rw [po.sp];rfl) po.rows po.cache (look_new hs.1 hfr) hc hs.2
 rw [po.sp] at e e2
 exact ⟨h',p',e,e2,⟨by rw [e2],by rw [e2],by rw [e2];exact op_ok po.rows _ _,by rw [e2];exact keepT_ok po.cache _ _ _⟩,e3,e4⟩
abbrev chg1 (x:Nat):List Change:=[⟨5,[120],5,⟨2,none,x⟩⟩]
def addOp (row:BL) (x:Nat):Wm.Op:=⟨2,row,[],noCond,some (chg1 x),0⟩
theorem op10_c (row:BL) (x:Nat) (h:H):W K 26 [.one (.str row),.one (.flt x)] h = some (.ret (.agg [ii 1,ii 2,.str row,.str [],.bool false,.bool false,.str [],ii 0,.nilslc,.flt 0,sl 6 encChange (some (chg1 x)),ii 0,.str [],.str [],ii 0,.str [],ii 0,ii 0,.nilslc]) h):=by
 have hown:memL S.own 26 = false:=by kernel_rfl
 refine W_pure hp (by simp [pureV,pureS]) (apart_does rfl rfl (by kernel_rfl) Tryz.func26 rfl (by simp [Tryz.f26]) ?_)
 simp only [Tryz.f26]
 refine hide ?_;intro Q1 hQ1
 repeat' (first
  | (replace hQ1:=hQ1;simp [sl,cat,encChange,bs_none,outV,frzV,frzS,pureS,K_own,hown])
  | refine hQ1 _ _ _ ?_)
theorem addOp_is {row:BL} (hr:nameOk row = true) (x:Nat):OpIs (addOp row x):=by
 have:=name_len hr
 refine ⟨?_,this,by simp [addOp],by simp [addOp,noCond],by simp [addOp,noCond],by simp [addOp],by simp [addOp]⟩
 have hx:nameOk [120] = true:=rfl
 simp [opOk,addOp,hr,hx,condOk,noCond,changeWhy,asks,valOk]
theorem none_st (h:H):StAt (h.new ⟨0,[3],true,[.nilslc,ii 0,ii 0]⟩) h.next .nilslc [] 0 0:=⟨by simp,by simp,.inl ⟨rfl,rfl⟩,by simp,by simp [fpS,ownB]⟩
theorem apartNil_c (h:H):W K 31 [.one .nilslc] h = some (.ret (.one (.bool true)) h):=by
 have hown:memL S.own 31 = false:=by kernel_rfl
 refine W_pure hp (by simp [pureV,pureS]) (apart_does rfl rfl (by kernel_rfl) Tryz.func31 rfl (by simp [Tryz.f31]) ?_)
 simp only [Tryz.f31]
 refine hide ?_;intro Q2 hQ2
 repeat' (first
  | (replace hQ2:=hQ2;simp [outV])
  | refine hQ2 _ _ _ ?_)
 refine does_count hp 0 (fun i fr hh=>True∧∃ j:Nat→AV,fr = (j 0::j 1::j 2::j 3::j 4::j 5::j 6::j 7::(.one (ii 0))::(.one (ii 0))::j 10::j 11::j 12::j 13::j 14::j 15::j 16::j 17::j 18::j 19::j 20::j 21::j 22::j 23::j 24::j 25::j 26::j 27::j 28::j 29::[])) ?_ ?_ _ _ ⟨trivial,ex_get' (by simp)⟩
 ·intro i fr hh hi;omega
 ·rintro fr hh ⟨_,j,rfl⟩
  first | (refine hide ?_;intro Q3 hQ3) | have hQ3:=True.intro
  repeat' (first
   | (replace hQ3:=hQ3;simp [outV])
   | (refine hQ3 _ _ _ ?_;clear hQ3 Q3;first | simp only [] | simp [outV,frzV,frzS,frzS_pure,frzP,pureS,pureL,K_own,hown] | skip)
   | (refine hadQ (by assumption) ?_;(try clear hQ3);first | simp only [] | simp [outV,frzV,frzS,pureS,K_own,hown] | skip)
   | ((fail_if_success replace hQ3:=hQ3);(first | refine hide ?_ | refine hideS ?_ | refine hideB ?_);intro Q3 hQ3))
theorem new_none (h:H):∃ h',W K 8 [.one .nilslc] h = some (.ret (.one (.ptr h.next 0 0)) h')∧StAt h' h.next .nilslc [] 0 0∧Kept h h':=by
 obtain ⟨h8,e8,w8,g8⟩:=sort_c (none_st h) (by simp)
 have hs:isort pLt ([]:List Pt) = []:=rfl
 rw [hs] at w8 g8
 have kp:Kept h h8:=⟨by have:=g8.next;simp at this;omega,fun x hx=>by rw [g8.keep x (by simp;omega) (by simp [fpS,ownB];omega),new_f (by omega)]⟩
 obtain ⟨P,hP⟩:∃ P:CR→Prop,P = fun r=>r = .ret (.one (.ptr h.next 0 0)) h8:=⟨_,rfl⟩
 suffices hh:∃ r,W K 8 [.one .nilslc] h = some r∧P r by
  rw [hP] at hh
  obtain ⟨r,e,rfl⟩:=hh
  exact ⟨h8,e,w8,kp⟩
 have hA:=apartNil_c
 refine W_doesQ hp rfl rfl rfl Tryz.func8 rfl (by simp [Tryz.f8]) ?_
 simp only [Tryz.f8]
 refine hide ?_;intro Q4 hQ4
 repeat' (first
  | (replace hQ4:=hQ4;simp)
  | refine hQ4 _ _ _ ?_
  | (first | refine dF (id:=9) [0,1,2,3,4,5,6,7,8,9,10] [] ?_ | refine dF (id:=10) [0,1,2,3,4,5,6,7,8,9,10,11,12,13,14,15,16,17] [(4,9),(4,10),(6,9),(6,10),(8,9),(8,10)] ?_))
 refine does_count hp 0 (fun i fr hh=>hh = h.new ⟨0,[3],true,[.nilslc,ii 0,ii 0]⟩∧∃ j:Nat→AV,fr = ((.one .nilslc)::j 1::j 2::(.one (.ptr h.next 0 0))::(.one .nilslc)::j 5::j 6::j 7::j 8::j 9::(.one (ii 0))::(.one (ii 0))::j 12::j 13::j 14::j 15::j 16::j 17::j 18::j 19::j 20::j 21::j 22::j 23::j 24::j 25::j 26::j 27::j 28::j 29::j 30::j 31::j 32::j 33::j 34::j 35::j 36::j 37::j 38::j 39::j 40::j 41::j 42::j 43::j 44::j 45::j 46::j 47::j 48::j 49::j 50::j 51::j 52::j 53::j 54::j 55::j 56::j 57::j 58::j 59::j 60::j 61::j 62::j 63::j 64::j 65::j 66::[])) ?_ ?_ _ _ ⟨rfl,ex_get' (by simp)⟩
 ·intro i fr hh hi;omega
 ·rintro fr hh ⟨rfl,j,rfl⟩
  first | (refine hide ?_;intro Q5 hQ5) | have hQ5:=True.intro
  repeat' (first
   | (replace hQ5:=hQ5;simp [hA,e8])
   | (refine hQ5 _ _ _ ?_;clear hQ5 Q5;first | simp only [] | simp [hA,e8] | skip)
   | (refine hadQ (by assumption) ?_;(try clear hQ5);first | simp only [] | simp [hA] | skip)
   | ((fail_if_success replace hQ5:=hQ5);(first | refine hide ?_ | refine hideS ?_ | refine hideB ?_);intro Q5 hQ5)
   | (first | refine dF (id:=9) [0,1,2,3,4,5,6,7,8,9,10] [] ?_ | refine dF (id:=10) [0,1,2,3,4,5,6,7,8,9,10,11,12,13,14,15,16,17] [(4,9),(4,10),(6,9),(6,10),(8,9),(8,10)] ?_))
  rw [hP]
theorem do_none {h:H} {s:Nat} {sp:AS} {ps:List Pt} {last code:Int} (w:StAt h s sp ps last code) (hn:ps.length < 1000000) (client seq:Int) (o_kind:Int) (o_row:BL) (o_hi:BL) (o_cond_has:Bool) (o_cond_want:Bool) (o_cond_col:BL) (o_cond_v_kind:Int) (o_cond_v_b:Option BL) (o_cond_v_n:Nat) (o_l:Option (List Change)) (o_most:Int) (oo:opOk ⟨o_kind,o_row,o_hi,⟨o_cond_has,o_cond_want,o_cond_col,⟨o_cond_v_kind,o_cond_v_b,o_cond_v_n⟩⟩,o_l,o_most⟩ = true) (ol:(ls o_l).length < 9223372036854775807) (hf:findP o_row none ps = none) :
  ∃ h',W K 12 [.one (.ptr s 0 0),.one (ii client),.one (ii seq),.agg [ii 1,ii o_kind,.str o_row,.str o_hi,.bool o_cond_has,.bool o_cond_want,.str o_cond_col,ii o_cond_v_kind,bs o_cond_v_b,.flt o_cond_v_n,sl 6 encChange o_l,ii o_most,.str [],.str [],ii 0,.str [],ii 0,ii 0,.nilslc]] h = some (.ret (.agg (encAnswer (noA 26))) h')∧Kept h h'∧StAt h' s sp ps last code:=by
 obtain ⟨B,hB⟩:∃ B:Blk,B = ⟨0,[19],true,[ii 1,ii o_kind,.str o_row,.str o_hi,.bool o_cond_has,.bool o_cond_want,.str o_cond_col,ii o_cond_v_kind,bs o_cond_v_b,.flt o_cond_v_n,sl 6 encChange o_l,ii o_most,.str [],.str [],ii 0,.str [],ii 0,ii 0,.nilslc]⟩:=⟨_,rfl⟩
 obtain ⟨h2,hh2⟩:∃ h2,(h.new B).new zAns = h2:=⟨_,rfl⟩
 have e1:=find_c (((w.new B).new zAns).new ⟨0,[11],true,[ii o_kind,.str o_row,.str o_hi,.bool o_cond_has,.bool o_cond_want,.str o_cond_col,ii o_cond_v_kind,bs o_cond_v_b,.flt o_cond_v_n,sl 6 encChange o_l,ii o_most]⟩ |>.new zAns) hn o_row
 rw [hf] at e1
 simp only [ptrO] at e1
 have hno:=no_c 26
 have hCl:(encAnswer (noA 26)).length = 11:=rfl
 have hCs:sub (encAnswer (noA 26)) 0 11 = some (encAnswer (noA 26)):=sub_all hCl
 have e2:W K 39 [.one (.ptr s 0 0),.one (ii client),.one (ii seq),.agg [ii o_kind,.str o_row,.str o_hi,.bool o_cond_has,.bool o_cond_want,.str o_cond_col,ii o_cond_v_kind,bs o_cond_v_b,.flt o_cond_v_n,sl 6 encChange o_l,ii o_most]] ((h.new B).new zAns) = some (.ret (.agg (encAnswer (noA 26))) ((((h.new B).new zAns).new ⟨0,[11],true,[ii o_kind,.str o_row,.str o_hi,.bool o_cond_has,.bool o_cond_want,.str o_cond_col,ii o_cond_v_kind,bs o_cond_v_b,.flt o_cond_v_n,sl 6 encChange o_l,ii o_most]⟩).new ⟨0,[11],true,encAnswer (noA 26)⟩)):=by
  generalize encAnswer (noA 26) = C at *
  rw [hh2] at e1 ⊢
  refine W_does hp rfl rfl rfl Tryz.func39 rfl (by simp [Tryz.f39]) ?_
  simp only [Tryz.f39]
  refine hide ?_;intro Q6 hQ6
  repeat' (first
   | (replace hQ6:=hQ6;simp [-lay,lay_full,hCl,hCs,nil3,e1,hno,new_set1])
   | refine hQ6 _ _ _ ?_)
 rw [hB] at e2
 have e:=do_op (c_kind:=1) client seq o_kind o_row o_hi o_cond_has o_cond_want o_cond_col o_cond_v_kind o_cond_v_b o_cond_v_n o_l o_most [] [] 0 [] 0 0 none rfl (by simp only [cmdOk,if_true];exact oo) ol (by simpa only [bs_none] using e2) (by simp [new_at])
 simp only [bs_none] at e
 have kp:Kept h (((((h.new ⟨0,[19],true,[ii 1,ii o_kind,.str o_row,.str o_hi,.bool o_cond_has,.bool o_cond_want,.str o_cond_col,ii o_cond_v_kind,bs o_cond_v_b,.flt o_cond_v_n,sl 6 encChange o_l,ii o_most,.str [],.str [],ii 0,.str [],ii 0,ii 0,.nilslc]⟩).new zAns).new ⟨0,[11],true,[ii o_kind,.str o_row,.str o_hi,.bool o_cond_has,.bool o_cond_want,.str o_cond_col,ii o_cond_v_kind,bs o_cond_v_b,.flt o_cond_v_n,sl 6 encChange o_l,ii o_most]⟩).new ⟨0,[11],true,encAnswer (noA 26)⟩).set (h.next + 1) ⟨0,[11],true,encAnswer (noA 26)⟩):=⟨by simp;omega,fun x hx=>by rw [set_at,if_neg (by omega),new_f (by simp;omega),new_f (by simp;omega),new_f (by simp;omega),new_f (by omega)]⟩
 exact ⟨_,e,kp,w.kept kp⟩
theorem nilS1 (c:Nat→Option (List AS)) (b v o:Nat):bin Tryz.prog c .eql 23 (.one (.ptr b v o)) (.one .nilptr) = some (.bool false):=by simp [bin,ford,equalA]
theorem fresh_c (h:H):∃ h' s sp p,W K 8 [.one (.slc h.next 0 0 1 4 none)] (h.new ⟨0,[4],true,[.str [],.str [],ii 0,ii 1]⟩) = some (.ret (.one (.ptr s 0 0)) h')∧StAt h' s sp [p] 1 0∧p.t = ⟨⟨[],[]⟩,1,false,[],[]⟩∧One p∧Kept h h'∧(∀ x ∈ fpS s sp [p],h.next ≤ x):=by
 obtain ⟨h',sp,p,e,w,e1,k,l⟩:=new_whole (h:=h.new ⟨0,[4],true,[.str [],.str [],ii 0,ii 1]⟩) (b:=h.next) (by simp) (by simp)
 refine ⟨h',_,sp,p,e,w,e1,⟨by rw [e1],by rw [e1],by rw [e1];exact tbl_nil,by rw [e1];exact cch_nil⟩,⟨by have:=k.1;simp at this;omega,fun x hx=>by rw [k.2 x (by simp;omega),new_f (by omega)]⟩,fun x hx=>by have:=l x hx;simp at this;omega⟩
theorem five_code:(mutT [] (addOp [110] 4617315517961601024)).2 = 0∧(mutT [] (addOp [110] 4617315517961601024)).1.length = 1:=by decide +kernel
theorem known10_c (h:H):∃ h',W K 15 [] h = some (.ret (.one (.bool true)) h')∧Kept h h':=by
 have hw:=whole_c h
 obtain ⟨h2,s,sp2,p,e2,w2,ep,po,k2,l2⟩:=fresh_c h
 have hps:p.t.span.lo = []:=by rw [po.sp]
 have hph:p.t.span.hi = []:=by rw [po.sp]
 have hI:SpI ((([]:List Pt)++p::[]).map (·.t)) p.t.rows:=one_spi po
 obtain ⟨h3,sp3,pa,pb,e3,w3,I3,ta3,tb3,g3⟩:=split_step (l1:=[]) (l2:=[]) (k:=[109]) (g:=2) w2 (by simp) hI 1 1 (by simp) (by simp) (by rw [po.sp];exact has_all _) (by rw [hps];simp) (by omega) (by omega)
 rw [hps,hph] at e3
 simp only [cmdC] at e3
 simp only [List.nil_append] at w3 g3 I3
 obtain ⟨C0,hC0⟩:∃ C,encAnswer (noA 0) = C:=⟨_,rfl⟩
 have hCl:C0.length = 11:=by rw [← hC0];rfl
 have hCs:sub C0 0 11 = some C0:=sub_all hCl
 have hCz:sub C0 0 1 = some [ii 0]:=by rw [← hC0];rfl
 obtain ⟨C1,hC1⟩:∃ C,encAnswer (noA 26) = C:=⟨_,rfl⟩
 have hDl:C1.length = 11:=by rw [← hC1];rfl
 have hDs:sub C1 0 11 = some C1:=sub_all hDl
 have hDz:sub C1 0 1 = some [ii 26]:=by rw [← hC1];rfl
 rw [hC0] at e3
 have w3':StAt (h3.new ⟨0,[11],true,C0⟩) s sp3 ([pa]++pb::[]) 2 0:=w3.new _
 have l3:∀ x ∈ fpS s sp3 [pa,pb],h.next ≤ x:=fun x hx=>by
  rcases g3.own x hx with e | e
  ·exact l2 x e
  ·have:=k2.1;omega
 have k3:Kept h h3:=⟨by have:=g3.next;have:=k2.1;omega,fun x hx=>by rw [g3.keep x (by have:=k2.1;omega) (fun e=>by have:=l2 x e;omega),k2.2 x hx]⟩
 have oi:=addOp_is (row:=[110]) rfl 4617315517961601024
 have hpa:pa.t = ⟨⟨[],[109]⟩,2,false,[],[]⟩:=by rw [ta3,ep];rfl
 have hpb:pb.t = ⟨⟨[109],[]⟩,2,false,[],[]⟩:=by rw [tb3,ep];rfl
 obtain ⟨h4,pb',e4,d4,t4,w4,g4⟩:=do_new w3' (by simp) 1 2 2 [110] [] false false [] 0 none 0 (some (chg1 4617315517961601024)) 0 oi.ok (by simp) (by simp) (by
  have h1:hasName ⟨[],[109]⟩ [110] = false:=by decide
  have h2:hasName ⟨[109],[]⟩ [110] = true:=by decide
  simp [findP,hpa,hpb,h1,h2]) (by rw [hpb];decide) (by rw [hpb]) (by rw [hpb];decide) (by rw [hpb];exact tbl_nil) (by rw [hpb];exact cch_nil) (by rw [hpb];rfl) (by omega) (by omega)
 rw [hpb] at e4 t4
 simp only [show ((2:Int) = 1) = False from eq_false (by omega),opT,if_true,if_false] at e4 t4
 have hfc:=five_code
 simp only [addOp,noCond] at hfc
 rw [hfc.1,hC0] at e4
 simp only [List.cons_append,List.nil_append] at w4 g4
 have l4:∀ x ∈ fpS s sp3 [pa,pb'],h.next ≤ x:=fun x hx=>by
  rcases g4.own x hx with e | e
  ·exact l3 x e
  ·have:=k3.1;simp at e;omega
 have n4:=g4.next
 simp only [new_next] at n4
 have k4:Kept h h4:=⟨by have:=k3.1;omega,fun x hx=>by rw [g4.keep x (by have:=k3.1;simp;omega) (fun e=>by have:=l3 x e;omega),new_f (by have:=k3.1;omega),k3.2 x hx]⟩
 have f4:h4.f h3.next = some ⟨0,[11],true,C0⟩:=by rw [g4.keep _ (by simp) (fun e=>by have:=w3.fp_lt _ e;omega)];simp
 have w4':=w4.new ⟨0,[11],true,C0⟩
 have e5:=live_c w4' (by simp)
 have hsm:someS false ([pa,pb'].map (·.t)) = [tabOf pa.t,tabOf pb'.t]:=by simp [someS,hpa,t4]
 rw [hsm] at e5
 simp only [nz_cons] at e5
 obtain ⟨h6,e6,w6,k6⟩:=new_none (h4.new ⟨0,[11],true,C0⟩)
 obtain ⟨h7,e7,k7,w7⟩:=do_none w6 (by simp) 1 1 2 [110] [] false false [] 0 none 0 (some (chg1 4617315517961601024)) 0 oi.ok (by simp) rfl
 rw [hC1] at e7
 simp only [new_next] at e6 e7 w7
 have n6:=k6.1
 have n7:=k7.1
 simp only [new_next] at n6
 have kk:∀ x,x < h4.next + 1→h7.f x = (h4.new ⟨0,[11],true,C0⟩).f x:=fun x hx=>by rw [k7.2 x (by omega),k6.2 x (by simpa using hx)]
 have f7a:h7.f h3.next = some ⟨0,[11],true,C0⟩:=by rw [kk _ (by omega),new_f (by omega)];exact f4
 have f7b:h7.f h4.next = some ⟨0,[11],true,C0⟩:=by rw [kk _ (by omega)];simp
 have w8:StAt (h7.new ⟨0,[11],true,C1⟩) s sp3 [pa,pb'] 2 0:=(((w4'.kept k6).kept k7).new _)
 have e8:=rows_c w8 (by simp) (fun q hq=>by
  simp only [List.mem_cons,List.not_mem_nil,or_false] at hq
  rcases hq with rfl | rfl
  ·rw [hpa];exact tbl_nil
  ·rw [t4];exact mut_ok tbl_nil _)
 have hrl:(rowsS ([pa,pb'].map (·.t))).length = 1:=by simp [rowsS,hpa,t4];exact hfc.2
 have hla8:∀ (u:TypeId) (h':H),lenA (sl 2 encNamed (nz (rowsS ([pa,pb'].map (·.t))))) (some (.slice u)) h' = some (one (ii 1) h'):=fun u h'=>by rw [lenA_sl,ls_nz,hrl];rfl
 generalize sl 2 encNamed (nz (rowsS ([pa,pb'].map (·.t)))) = Z at *
 have hla5:∀ (u:TypeId) (h':H),lenA (sl 4 encTablet (some [tabOf pa.t,tabOf pb'.t])) (some (.slice u)) h' = some (one (ii 2) h'):=fun u h'=>lenA_sl ..
 have hix:=index_sl (P:=Tryz.prog) (enc:=encTablet) (s:=4) (l:=[tabOf pa.t,tabOf pb'.t]) (i:=1) Tryz.underlying25 (by simp) (by omega) (by simp)
 have hsub:sub (cat encTablet [tabOf pa.t,tabOf pb'.t]) 7 1 = some [ii 2]:=by rw [hpa,t4];rfl
 generalize cat encTablet [tabOf pa.t,tabOf pb'.t] = CT at *
 generalize sl 4 encTablet (some [tabOf pa.t,tabOf pb'.t]) = ZT at *
 have m1:¬ h3.next = h7.next:=by omega
 have m2:¬ h4.next = h7.next:=by omega
 have m3:¬ h3.next = h4.next:=by omega
 have eop:=op10_c [110] 4617315517961601024
 simp only [bs_none] at e4 e7
 refine ⟨h7.new ⟨0,[11],true,C1⟩, ?_,⟨by simp;have:=k4.1;omega,fun x hx=>by rw [new_f (by have:=k4.1;omega),kk x (by have:=k4.1;omega),new_f (by have:=k4.1;omega),k4.2 x hx]⟩⟩
 generalize sl 6 encChange (some (chg1 4617315517961601024)) = ZO at *
 refine W_does hp rfl rfl rfl Tryz.func15 rfl (by simp [Tryz.f15]) ?_
 simp only [Tryz.f15]
 refine hide ?_;intro Q1 hQ1
 repeat' (first
  | (replace hQ1:=hQ1;simp [-lay,lay_c0,lay_n0,lay_cs,lay_full,hCl,hCz,hDl,hDz,nilS1,hw,e2,e3,eop,e4,e5,e6,e7,f7a,f7b,e8,hla8,hla5,hix,hsub,m1,m2])
  | refine hQ1 _ _ _ ?_)
end Go.Proofs.YtiagcnfmgigllaaGreat
