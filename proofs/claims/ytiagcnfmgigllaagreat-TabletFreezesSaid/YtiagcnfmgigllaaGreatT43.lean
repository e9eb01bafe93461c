/- A part of a proof over the abstract machine. No conditions. -/
import Derived.Test.YtiagcnfmgigllaaGreatWmStore2
import Derived.Laws.FloatBits
set_option linter.unusedSimpArgs false
set_option linter.unnecessarySimpa false
set_option linter.unusedVariables false
namespace Go.Proofs.YtiagcnfmgigllaaGreat
open Go Go.Ab Wm NumPlain
set_option maxRecDepth 10000
set_option maxHeartbeats 4000000
theorem k0G (n:Nat) (h:H):W K 155 [.one (.flt n)] h = some (.ret (.one (.int .u64 n)) h):=by rw [l0L hp rfl rfl];rfl
theorem A0A (b:Nat):∃ n:Int,∀ h,W K 233 [.one (.flt b)] h = some (.ret (.one (.int .u64 n)) h):=by
 obtain ⟨c1,h1⟩:∃ c,l0j .u64 (b:Int) 9218868437227405312 = c:=⟨_,rfl⟩
 obtain ⟨c2,h2⟩:∃ c,l0j .u64 (b:Int) 4503599627370495 = c:=⟨_,rfl⟩
 by_cases e1:c1 = 9218868437227405312
 ·subst e1
  by_cases e2:c2 = 0
  ·subst e2
   refine ⟨b,fun h=>?_⟩
   have hown:A8 S.own 233 = false:=by kernel_rfl
   refine p5 hp (by simp [p7,c5]) (c6 rfl rfl (by kernel_rfl) Tryz.func233 rfl (by simp [Tryz.f233]) ?_)
   simp only [Tryz.f233]
   refine hide ?_;intro Q1 hQ1
   repeat' (first
    | (replace hQ1:=hQ1;simp [k0G,h1,h2,t7,p9,p6,c5,p0,hown])
    | refine hQ1 _ _ _ ?_)
  ·have e2b:(c2 == 0) = false:=by simp [e2]
   have e2c:(c2 != 0) = true:=by simp [e2]
   refine ⟨9221120237041090561,fun h=>?_⟩
   have hown:A8 S.own 233 = false:=by kernel_rfl
   refine p5 hp (by simp [p7,c5]) (c6 rfl rfl (by kernel_rfl) Tryz.func233 rfl (by simp [Tryz.f233]) ?_)
   simp only [Tryz.f233]
   refine hide ?_;intro Q2 hQ2
   repeat' (first
    | (replace hQ2:=hQ2;simp [k0G,h1,h2,e2c,t7,p9,p6,c5,p0,hown])
    | refine hQ2 _ _ _ ?_)
 ·have e1b:(c1 == 9218868437227405312) = false:=by simp [e1]
  refine ⟨b,fun h=>?_⟩
  have hown:A8 S.own 233 = false:=by kernel_rfl
  refine p5 hp (by simp [p7,c5]) (c6 rfl rfl (by kernel_rfl) Tryz.func233 rfl (by simp [Tryz.f233]) ?_)
  simp only [Tryz.f233]
  refine hide ?_;intro Q3 hQ3
  repeat' (first
   | (replace hQ3:=hQ3;simp [k0G,h1,e1b,t7,p9,p6,c5,p0,hown])
   | refine hQ3 _ _ _ ?_)
theorem x0L (b:Nat):∃ n:Int,∀ h,W K 202 [.one (.flt b)] h = some (.ret (.one (.int .u64 n)) h):=by
 obtain ⟨n,hb⟩:=A0A b
 by_cases e1:n = 9221120237041090561
 ·subst e1
  refine ⟨18446744073709551615,fun h=>?_⟩
  refine A5 hp rfl rfl rfl Tryz.func202 rfl (by simp [Tryz.f202]) ?_
  simp only [Tryz.f202]
  refine hide ?_;intro Q4 hQ4
  repeat' (first
   | (replace hQ4:=hQ4;simp [hb])
   | refine hQ4 _ _ _ ?_)
 ·have e1b:(n == 9221120237041090561) = false:=by simp [e1]
  have hs:a0n .shr .u64 n 63 = some (.int .u64 (n.fdiv (2 ^ min (63:Int).toNat IntKind.u64.bits))):=rfl
  obtain ⟨m,hm⟩:∃ m,n.fdiv (2 ^ min (63:Int).toNat IntKind.u64.bits) = m:=⟨_,rfl⟩
  rw [hm] at hs
  by_cases e2:m = 1
  ·subst e2
   refine ⟨v0Y .u64 n,fun h=>?_⟩
   refine A5 hp rfl rfl rfl Tryz.func202 rfl (by simp [Tryz.f202]) ?_
   simp only [Tryz.f202]
   refine hide ?_;intro Q5 hQ5
   repeat' (first
    | (replace hQ5:=hQ5;simp [hb,e1b,hs])
    | refine hQ5 _ _ _ ?_)
  ·have e2b:(m == 1) = false:=by simp [e2]
   refine ⟨orI .u64 n 9223372036854775808,fun h=>?_⟩
   refine A5 hp rfl rfl rfl Tryz.func202 rfl (by simp [Tryz.f202]) ?_
   simp only [Tryz.f202]
   refine hide ?_;intro Q6 hQ6
   repeat' (first
    | (replace hQ6:=hQ6;simp [hb,e1b,hs,e2b])
    | refine hQ6 _ _ _ ?_)
theorem B0c (b:Nat) (h:H):W K 157 [.one (.flt b),.one (.flt b)] h = some (.ret (.one (ii 0)) h):=by
 obtain ⟨n,hb⟩:=x0L b
 have hown:A8 S.own 157 = false:=by kernel_rfl
 refine p5 hp (by simp [p7,c5]) (c6 rfl rfl (by kernel_rfl) Tryz.func157 rfl (by simp [Tryz.f157]) ?_)
 simp only [Tryz.f157]
 refine hide ?_;intro Q7 hQ7
 repeat' (first
  | (replace hQ7:=hQ7;simp [hb,t7,p9,p6,c5,p0,hown])
  | refine hQ7 _ _ _ ?_)
def l0K (k:Int):Int:=if k = 1 ∨ k = 2 then k else 0
theorem r0l (B9:Int) (v_b:Option BL) (v_n:Nat) (h:H):W K 156 [.agg [ii B9,bs v_b,.flt v_n]] h = some (.ret (.one (ii (l0K B9))) (h.new ⟨0,[3],true,[ii B9,bs v_b,.flt v_n]⟩)):=by
 unfold l0K
 by_cases h1:B9 = 1
 ·subst h1
  refine A5 hp rfl rfl rfl Tryz.func156 rfl (by simp [Tryz.f156]) ?_
  simp only [Tryz.f156]
  refine hide ?_;intro Q8 hQ8
  repeat' (first
   | (replace hQ8:=hQ8;simp)
   | refine hQ8 _ _ _ ?_)
 ·have h1b:(B9 == 1) = false:=by simp [h1]
  by_cases h2:B9 = 2
  ·subst h2
   refine A5 hp rfl rfl rfl Tryz.func156 rfl (by simp [Tryz.f156]) ?_
   simp only [Tryz.f156]
   refine hide ?_;intro Q9 hQ9
   repeat' (first
    | (replace hQ9:=hQ9;simp)
    | refine hQ9 _ _ _ ?_)
  ·have h2b:(B9 == 2) = false:=by simp [h2]
   rw [if_neg (by simp [h1,h2])]
   refine A5 hp rfl rfl rfl Tryz.func156 rfl (by simp [Tryz.f156]) ?_
   simp only [Tryz.f156]
   refine hide ?_;intro Q10 hQ10
   repeat' (first
    | (replace hQ10:=hQ10;simp [h1b,h2b])
    | refine hQ10 _ _ _ ?_)
structure EqV (v w:Wm.Value):Prop where
 k:w.kind = v.kind
 b:v.kind = 1→ls w.b = ls v.b
 n:v.kind = 2→w.n = v.n
theorem v0U {v w:Wm.Value} (e:EqV v w) (h:H):W K 67 [.agg (W0 v),.agg (W0 w)] h = some (.ret (.one (.bool true)) h):=by
 obtain ⟨B9,v_b,v_n⟩:=v
 obtain ⟨w_kind,w_b,w_n⟩:=w
 obtain ⟨e1,e2,e3⟩:=e
 simp only at e1 e2 e3
 subst e1
 simp only [W0]
 have hk1:=r0l w_kind v_b v_n
 have hk2:=r0l w_kind w_b w_n
 have ho:∀ h,W K 110 [.agg [ii w_kind,bs v_b,.flt v_n],.agg [ii w_kind,bs w_b,.flt w_n]] h = some (.ret (.one (ii 0)) h):=by
  intro h
  by_cases h1:w_kind = 1
  ·have hb:=e2 h1
   subst h1
   have hk:l0K 1 = 1:=rfl
   rw [hk] at hk1 hk2
   have hi:Op.bytesLess (ls v_b) (ls v_b) = false:=Y5 _
   have hown:A8 S.own 110 = false:=by kernel_rfl
   refine p5 hp (by simp [p7,c5,j9]) (c6 rfl rfl (by kernel_rfl) Tryz.func110 rfl (by simp [Tryz.f110]) ?_)
   simp only [Tryz.f110]
   refine hide ?_;intro Q11 hQ11
   repeat' (first
    | (replace hQ11:=hQ11;simp [hk1,hk2,a0E,L8,hb,hi,t7,p9,p6,c5,p0,hown])
    | refine hQ11 _ _ _ ?_
    | refine dF (id:=1) [0,1,2,3,4,5] [(1,2)] ?_)
  ·by_cases h2:w_kind = 2
   ·have hn:=e3 h2
    subst h2
    subst hn
    have hk:l0K 2 = 2:=rfl
    rw [hk] at hk1 hk2
    have hr:=B0c w_n
    have hown:A8 S.own 110 = false:=by kernel_rfl
    refine p5 hp (by simp [p7,c5,j9]) (c6 rfl rfl (by kernel_rfl) Tryz.func110 rfl (by simp [Tryz.f110]) ?_)
    simp only [Tryz.f110]
    refine hide ?_;intro Q12 hQ12
    repeat' (first
     | (replace hQ12:=hQ12;simp [hk1,hk2,hr,t7,p9,p6,c5,p0,hown])
     | refine hQ12 _ _ _ ?_
     | refine dF (id:=1) [0,1,2,3,4,5] [(1,2)] ?_)
   ·have hk:l0K w_kind = 0:=by simp [l0K,h1,h2]
    rw [hk] at hk1 hk2
    have hown:A8 S.own 110 = false:=by kernel_rfl
    refine p5 hp (by simp [p7,c5,j9]) (c6 rfl rfl (by kernel_rfl) Tryz.func110 rfl (by simp [Tryz.f110]) ?_)
    simp only [Tryz.f110]
    refine hide ?_;intro Q13 hQ13
    repeat' (first
     | (replace hQ13:=hQ13;simp [hk1,hk2,t7,p9,p6,c5,p0,hown])
     | refine hQ13 _ _ _ ?_
     | refine dF (id:=1) [0,1,2,3,4,5] [(1,2)] ?_)
 have hown:A8 S.own 67 = false:=by kernel_rfl
 refine p5 hp (by simp [p7,c5,j9]) (c6 rfl rfl (by kernel_rfl) Tryz.func67 rfl (by simp [Tryz.f67]) ?_)
 simp only [Tryz.f67]
 refine hide ?_;intro Q14 hQ14
 repeat' (first
  | (replace hQ14:=hQ14;simp [ho,t7,p9,p6,c5,p0,hown])
  | refine hQ14 _ _ _ ?_)
structure EqX (v w:Version):Prop where
 t:w.time = v.time
 v:EqV v.v w.v
theorem j0Y {α β:Type} {o o':Row} {L:List α} (e f:α→Column) (V:α→List β) (d g:β→Version) (ho1:ls o = L.map e) (ho:ls o' = L.map f) (hf:∀ c ∈ L,(f c).name = (e c).name∧ls (e c).l = (V c).map d∧ls (f c).l = (V c).map g∧(V c).length < 1000000∧∀ x ∈ V c,EqX (d x) (g x)) (hl:L.length < 1000000) (h:H) :
  W K 36 [.agg (F6 o),.agg (F6 o')] h = some (.ret (.one (.bool true)) h):=by
 simp only [F6]
 have hl1:∀ (u:TypeId) (h':H),P6 (sl 2 d9 o) (some (.slice u)) h' = some (one (ii L.length) h'):=fun u h'=>by rw [S8,ho1,List.length_map]
 have hl2:∀ (u:TypeId) (h':H),P6 (sl 2 d9 o') (some (.slice u)) h' = some (one (ii L.length) h'):=fun u h'=>by rw [S8,ho,List.length_map]
 obtain ⟨Z1,hZ1⟩:∃ Z,sl 2 d9 o = Z:=⟨_,rfl⟩
 obtain ⟨Z2,hZ2⟩:∃ Z,sl 2 d9 o' = Z:=⟨_,rfl⟩
 rw [hZ1] at hl1 ⊢
 rw [hZ2] at hl2 ⊢
 have hp1:c5 false Z1 = true:=by rw [← hZ1];exact h0w _
 have hp2:c5 false Z2 = true:=by rw [← hZ2];exact h0w _
 have hown:A8 S.own 36 = false:=by kernel_rfl
 refine p5 hp (by simp [p7,hp1,hp2,j9]) (c6 rfl rfl (by kernel_rfl) Tryz.func36 rfl (by simp [Tryz.f36]) ?_)
 simp only [Tryz.f36]
 refine hide ?_;intro Q15 hQ15
 repeat' (first
  | (replace hQ15:=hQ15;simp [hl1,hl2])
  | refine hQ15 _ _ _ ?_
  | (first | refine dF (id:=6) [0,1,2,3,4,5,6,7,8,9,10,11,12,13,14,15,16,17,18,19,20,21,22,23,24,25,26,27,28,29] [] ?_ | refine dF (id:=11) [0,1,2,3,4,5,6,7,8,9,10,11,12,13,14,15,16,17,18,19,20,21,22,23,24,25,26,27,28,29,30,31,32,33,34,35,36,37,38,39,40,41,42,43,44] [] ?_))
 refine F5 hp L (fun a r fr hh=>(2 ≤ hh.next∧hh.f 0 = some ⟨0,[1],true,[Z1]⟩∧hh.f 1 = some ⟨0,[1],true,[Z2]⟩)∧∃ j:Nat→AV,fr = (j 0::j 1::(.one (.ptr 0 0 0))::(.one (.ptr 1 0 0))::j 4::(.one (ii a.length))::j 6::j 7::j 8::j 9::j 10::j 11::j 12::j 13::j 14::j 15::j 16::j 17::j 18::j 19::j 20::j 21::j 22::j 23::j 24::j 25::j 26::j 27::j 28::j 29::j 30::j 31::j 32::j 33::j 34::j 35::j 36::j 37::j 38::j 39::j 40::j 41::j 42::j 43::j 44::j 45::j 46::j 47::j 48::j 49::j 50::j 51::j 52::j 53::j 54::j 55::j 56::j 57::j 58::j 59::j 60::j 61::j 62::j 63::j 64::j 65::j 66::j 67::j 68::j 69::j 70::j 71::j 72::j 73::j 74::j 75::j 76::j 77::j 78::j 79::j 80::j 81::j 82::j 83::j 84::j 85::j 86::j 87::j 88::j 89::j 90::j 91::j 92::j 93::j 94::j 95::j 96::j 97::j 98::j 99::j 100::j 101::j 102::j 103::j 104::j 105::j 106::[])) ?_ ?_ _ _ ⟨⟨by simp,by simp,by simp⟩,s9 (by simp)⟩
 ·rintro a x r fr hh hll ⟨⟨i0,i1,i2⟩,j,rfl⟩
  have hil:a.length < L.length:=by rw [hll];simp
  obtain ⟨x1,x0,x2,x3,x4⟩:=hf x (by rw [hll];simp)
  have ho3:ls o = a.map e++e x::r.map e:=by rw [ho1,hll];simp
  have hso:some (ls o) = o:=by rw [ho3];exact (S7 ho3).symm
  have ho2:ls o' = a.map f++f x::r.map f:=by rw [ho,hll];simp
  have hso':some (ls o') = o':=by rw [ho2];exact (S7 ho2).symm
  have hix1:=J8 (P:=Tryz.prog) (enc:=d9) (s:=2) (l:=ls o) (i:=a.length) Tryz.underlying79 (by simp) (by omega) (by rw [ho1,List.length_map];exact hil)
  rw [hso,hZ1] at hix1
  have hix2:=J8 (P:=Tryz.prog) (enc:=d9) (s:=2) (l:=ls o') (i:=a.length) Tryz.underlying79 (by simp) (by omega) (by rw [ho,List.length_map];exact hil)
  rw [hso',hZ2] at hix2
  have r10:=I4 (enc:=d9) (s:=2) O8 (a.map e) (e x) (r.map e) (o:=0) (n:=1) (by omega)
  have r11:=I4 (enc:=d9) (s:=2) O8 (a.map e) (e x) (r.map e) (o:=1) (n:=1) (by omega)
  have r20:=I4 (enc:=d9) (s:=2) O8 (a.map f) (f x) (r.map f) (o:=0) (n:=1) (by omega)
  have r21:=I4 (enc:=d9) (s:=2) O8 (a.map f) (f x) (r.map f) (o:=1) (n:=1) (by omega)
  rw [← ho3,List.length_map] at r10 r11
  rw [← ho2,List.length_map] at r20 r21
  simp only [Nat.add_zero] at r10 r20
  obtain ⟨⟨xn,xl⟩,hx⟩:∃ y,e x = y:=⟨_,rfl⟩
  obtain ⟨⟨yn,yl⟩,hy⟩:∃ y,f x = y:=⟨_,rfl⟩
  rw [hx] at r10 r11 x1 x0
  rw [hy] at r20 r21 x1 x2
  simp only at x1 x0 x2
  subst x1
  obtain ⟨VX,hVX⟩:∃ v,V x = v:=⟨_,rfl⟩
  rw [hVX] at x0 x2 x3 x4
  replace r10:sub (cat d9 (ls o)) (a.length * 2) 1 = some [.str yn]:=r10
  replace r11:sub (cat d9 (ls o)) (a.length * 2 + 1) 1 = some [sl 4 c9 xl]:=r11
  replace r20:sub (cat d9 (ls o')) (a.length * 2) 1 = some [.str yn]:=r20
  replace r21:sub (cat d9 (ls o')) (a.length * 2 + 1) 1 = some [sl 4 c9 yl]:=r21
  have hw:IntKind.i64.wrap ((a.length:Int) + 1) = ((a++[x]).length:Int):=by rw [M9];exact F0 (by omega)
  have hlx:∀ (u:TypeId) (h':H),P6 (sl 4 c9 xl) (some (.slice u)) h' = some (one (ii VX.length) h'):=fun u h'=>by rw [S8,x0,List.length_map]
  have hly:∀ (u:TypeId) (h':H),P6 (sl 4 c9 yl) (some (.slice u)) h' = some (one (ii VX.length) h'):=fun u h'=>by rw [S8,x2,List.length_map]
  obtain ⟨V1,hV1⟩:∃ Z,sl 4 c9 xl = Z:=⟨_,rfl⟩
  obtain ⟨V2,hV2⟩:∃ Z,sl 4 c9 yl = Z:=⟨_,rfl⟩
  rw [hV1] at hlx r11
  rw [hV2] at hly r21
  generalize hA2:a++[x] = A2 at *
  generalize hC1:cat d9 (ls o) = C1 at *
  generalize hC2:cat d9 (ls o') = C2 at *
  first | (refine hide ?_;intro Q16 hQ16) | have hQ16:=True.intro
  repeat' (first
   | (replace hQ16:=hQ16;simp [L8,hl1,i1,i2,hix1,hix2,r10,r11,r20,r21,hlx,hly,hil])
   | (refine hQ16 _ _ _ ?_;clear hQ16 Q16;first | simp only [] | simp [L8,hl1,hl2,i1,i2,hix1,hix2,r10,r11,r20,r21,hlx,hly,hil,t7,p9,p6,s7,J3,c5,j9,p0,hown] | skip)
   | (refine D3 (by assumption) ?_;(try clear hQ16);first | simp only [] | simp [L8,hl1,hl2,i1,i2,hix1,hix2,r10,r11,r20,r21,hlx,hly,hil,t7,p9,p6,s7,J3,c5,j9,p0,hown] | skip)
   | ((fail_if_success replace hQ16:=hQ16);(first | refine hide ?_ | refine u6 ?_ | refine u7 ?_);intro Q16 hQ16)
   | (first | refine dF (id:=6) [0,1,2,3,4,5,6,7,8,9,10,11,12,13,14,15,16,17,18,19,20,21,22,23,24,25,26,27,28,29] [] ?_ | refine dF (id:=11) [0,1,2,3,4,5,6,7,8,9,10,11,12,13,14,15,16,17,18,19,20,21,22,23,24,25,26,27,28,29,30,31,32,33,34,35,36,37,38,39,40,41,42,43,44] [] ?_))
  refine F5 hp VX (fun b q fr h2=>(h2 = hh)∧∃ j:Nat→AV,fr = (j 0::j 1::(.one (.ptr 0 0 0))::(.one (.ptr 1 0 0))::j 4::(.one (ii a.length))::(.one (ii b.length))::j 7::j 8::j 9::j 10::j 11::j 12::j 13::j 14::j 15::j 16::j 17::j 18::j 19::j 20::j 21::j 22::j 23::j 24::j 25::j 26::j 27::j 28::j 29::j 30::j 31::j 32::j 33::j 34::j 35::j 36::j 37::j 38::j 39::j 40::j 41::j 42::j 43::j 44::j 45::j 46::j 47::j 48::j 49::j 50::j 51::j 52::j 53::j 54::j 55::j 56::j 57::j 58::j 59::j 60::j 61::j 62::j 63::j 64::j 65::j 66::j 67::j 68::j 69::j 70::j 71::j 72::j 73::j 74::j 75::j 76::j 77::j 78::j 79::j 80::j 81::j 82::j 83::j 84::j 85::j 86::j 87::j 88::j 89::j 90::j 91::j 92::j 93::j 94::j 95::j 96::j 97::j 98::j 99::j 100::j 101::j 102::j 103::j 104::j 105::j 106::[])) ?_ ?_ _ _ ?_
  rotate_left 2
  ·exact ⟨rfl,s9 (by simp)⟩
  ·rintro b y q fr h2 hl2' ⟨rfl,j',rfl⟩
   have hil2:b.length < VX.length:=by rw [hl2'];simp
   have y4:=x4 y (by rw [hl2'];simp)
   have hxl:ls xl = b.map d++d y::q.map d:=by rw [x0,hl2'];simp
   have hsx:some (ls xl) = xl:=by rw [hxl];exact (S7 hxl).symm
   have hyl:ls yl = b.map g++g y::q.map g:=by rw [x2,hl2'];simp
   have hsy:some (ls yl) = yl:=by rw [hyl];exact (S7 hyl).symm
   have jx1:=J8 (P:=Tryz.prog) (enc:=c9) (s:=4) (l:=ls xl) (i:=b.length) Tryz.underlying89 (by simp) (by omega) (by rw [x0,List.length_map];exact hil2)
   rw [hsx,hV1] at jx1
   have jx2:=J8 (P:=Tryz.prog) (enc:=c9) (s:=4) (l:=ls yl) (i:=b.length) Tryz.underlying89 (by simp) (by omega) (by rw [x2,List.length_map];exact hil2)
   rw [hsy,hV2] at jx2
   have v10:=I4 (enc:=c9) (s:=4) C9 (b.map d) (d y) (q.map d) (o:=0) (n:=1) (by omega)
   have v11:=I4 (enc:=c9) (s:=4) C9 (b.map d) (d y) (q.map d) (o:=1) (n:=3) (by omega)
   have v20:=I4 (enc:=c9) (s:=4) C9 (b.map g) (g y) (q.map g) (o:=0) (n:=1) (by omega)
   have v21:=I4 (enc:=c9) (s:=4) C9 (b.map g) (g y) (q.map g) (o:=1) (n:=3) (by omega)
   rw [← hxl,List.length_map] at v10 v11
   rw [← hyl,List.length_map] at v20 v21
   simp only [Nat.add_zero] at v10 v20
   have ht:=y4.t
   have hS:=v0U y4.v
   obtain ⟨⟨yt,yv⟩,hyd⟩:∃ z,d y = z:=⟨_,rfl⟩
   obtain ⟨⟨zt,zv⟩,hz⟩:∃ z,g y = z:=⟨_,rfl⟩
   rw [hyd] at v10 v11 ht hS
   rw [hz] at v20 v21 ht hS
   simp only at ht
   subst ht
   replace v10:sub (cat c9 (ls xl)) (b.length * 4) 1 = some [ii zt]:=v10
   replace v11:sub (cat c9 (ls xl)) (b.length * 4 + 1) 3 = some (W0 yv):=v11
   replace v20:sub (cat c9 (ls yl)) (b.length * 4) 1 = some [ii zt]:=v20
   replace v21:sub (cat c9 (ls yl)) (b.length * 4 + 1) 3 = some (W0 zv):=v21
   simp only at hS
   have hw2:IntKind.i64.wrap ((b.length:Int) + 1) = ((b++[y]).length:Int):=by rw [M9];exact F0 (by omega)
   generalize hB2:b++[y] = B2 at *
   generalize hD1:cat c9 (ls xl) = D1 at *
   generalize hD2:cat c9 (ls yl) = D2 at *
   first | (refine hide ?_;intro Q17 hQ17) | have hQ17:=True.intro
   repeat' (first
    | (replace hQ17:=hQ17;simp [i1,i2,hix1,hix2,r11,r21,hlx,hil2,jx1,jx2,v10,v11,v20,v21,hS,hw2])
    | (refine hQ17 _ _ _ ?_;clear hQ17 Q17;first | simp only [] | simp [hl1,hl2,i1,i2,hix1,hix2,r10,r11,r20,r21,hlx,hly,hil2,jx1,jx2,v10,v11,v20,v21,hS,hw2,t7,p9,p6,s7,J3,c5,j9,p0,hown] | skip)
    | (refine D3 (by assumption) ?_;(try clear hQ17);first | simp only [] | simp [hl1,hl2,i1,i2,hix1,hix2,r10,r11,r20,r21,hlx,hly,hil2,jx1,jx2,v10,v11,v20,v21,hS,hw2,t7,p9,p6,s7,J3,c5,j9,p0,hown] | skip)
    | ((fail_if_success replace hQ17:=hQ17);(first | refine hide ?_ | refine u6 ?_ | refine u7 ?_);intro Q17 hQ17)
    | (first | refine dF (id:=6) [0,1,2,3,4,5,6,7,8,9,10,11,12,13,14,15,16,17,18,19,20,21,22,23,24,25,26,27,28,29] [] ?_ | refine dF (id:=11) [0,1,2,3,4,5,6,7,8,9,10,11,12,13,14,15,16,17,18,19,20,21,22,23,24,25,26,27,28,29,30,31,32,33,34,35,36,37,38,39,40,41,42,43,44] [] ?_))
   exact ⟨trivial,s9 (by simp)⟩
  ·rintro fr h2 ⟨rfl,j',rfl⟩
   first | (refine hide ?_;intro Q18 hQ18) | have hQ18:=True.intro
   repeat' (first
    | (replace hQ18:=hQ18;simp [i1,hix1,r11,hlx,hw])
    | (refine hQ18 _ _ _ ?_;clear hQ18 Q18;first | simp only [] | simp [i1,i2,hix1,r11,hlx,hw,t7,p9,p6,s7,J3,c5,j9,p0,hown] | skip)
    | (refine D3 (by assumption) ?_;(try clear hQ18);first | simp only [] | simp [i1,i2,hix1,r11,hlx,hw,t7,p9,p6,s7,J3,c5,j9,p0,hown] | skip)
    | ((fail_if_success replace hQ18:=hQ18);(first | refine hide ?_ | refine u6 ?_ | refine u7 ?_);intro Q18 hQ18)
    | (first | refine dF (id:=6) [0,1,2,3,4,5,6,7,8,9,10,11,12,13,14,15,16,17,18,19,20,21,22,23,24,25,26,27,28,29] [] ?_ | refine dF (id:=11) [0,1,2,3,4,5,6,7,8,9,10,11,12,13,14,15,16,17,18,19,20,21,22,23,24,25,26,27,28,29,30,31,32,33,34,35,36,37,38,39,40,41,42,43,44] [] ?_))
   exact ⟨⟨i0,i1,i2⟩,s9 (by simp)⟩
 ·rintro fr hh ⟨⟨i0,i1,i2⟩,j,rfl⟩
  first | (refine hide ?_;intro Q19 hQ19) | have hQ19:=True.intro
  repeat' (first
   | (replace hQ19:=hQ19;simp [hl1,i1])
   | (refine hQ19 _ _ _ ?_;clear hQ19 Q19;first | simp only [] | simp [hl1,i1,t7,p9,p6,s7,J3,c5,j9,p0,hown] | skip)
   | (refine D3 (by assumption) ?_;(try clear hQ19);first | simp only [] | simp [t7,p9,p6,c5,p0,hown] | skip)
   | ((fail_if_success replace hQ19:=hQ19);(first | refine hide ?_ | refine u6 ?_ | refine u7 ?_);intro Q19 hQ19)
   | (first | refine dF (id:=6) [0,1,2,3,4,5,6,7,8,9,10,11,12,13,14,15,16,17,18,19,20,21,22,23,24,25,26,27,28,29] [] ?_ | refine dF (id:=11) [0,1,2,3,4,5,6,7,8,9,10,11,12,13,14,15,16,17,18,19,20,21,22,23,24,25,26,27,28,29,30,31,32,33,34,35,36,37,38,39,40,41,42,43,44] [] ?_))
structure EqN (x y:Named):Prop where
 n:y.name = x.name
 r:∀ h,W K 36 [.agg (F6 x.r),.agg (F6 y.r)] h = some (.ret (.one (.bool true)) h)
theorem x0K (a b c d:BL):bin Tryz.prog K.cmp .neq 43 (.agg [.str a,.str b]) (.agg [.str c,.str d]) = some (.bool (!(decide (a = c) && decide (b = d)))):=by
 have hc:K.cmp 43 = some [.str [],.str []]:=by kernel_rfl
 simp [bin,hc,P1,eqL,eqS]
 rw [Bool.eq_iff_iff];simp
theorem p0H {α:Type} (code:Int) (o o':Option (List Named)) {L:List α} (E F:α→Named) (ho1:ls o = L.map E) (ho:ls o' = L.map F) (hF:∀ x ∈ L,EqN (E x) (F x)) (hl:L.length < 1000000) (lo hi:BL) (group gen old to do_:Int) (at_:BL) (st st':Option BL) (hs:ls st = ls st') (h:H) :
  W K 11 [.agg [ii code,sl 2 c8 o,.str lo,.str hi,ii group,ii gen,ii old,ii to,ii do_,.str at_,bs st],.agg [ii code,sl 2 c8 o',.str lo,.str hi,ii group,ii gen,ii old,ii to,ii do_,.str at_,bs st']] h = some (.ret (.one (.bool true)) h):=by
 have hc:=x0K lo hi lo hi
 simp only [decide_true,Bool.and_self,Bool.not_true] at hc
 have hl1:∀ (u:TypeId) (h':H),P6 (sl 2 c8 o) (some (.slice u)) h' = some (one (ii L.length) h'):=fun u h'=>by rw [S8,ho1,List.length_map]
 have hl2:∀ (u:TypeId) (h':H),P6 (sl 2 c8 o') (some (.slice u)) h' = some (one (ii L.length) h'):=fun u h'=>by rw [S8,ho,List.length_map]
 obtain ⟨Z1,hZ1⟩:∃ Z,sl 2 c8 o = Z:=⟨_,rfl⟩
 obtain ⟨Z2,hZ2⟩:∃ Z,sl 2 c8 o' = Z:=⟨_,rfl⟩
 rw [hZ1] at hl1 ⊢
 rw [hZ2] at hl2 ⊢
 have hp1:c5 false Z1 = true:=by rw [← hZ1];exact a0Y _
 have hp2:c5 false Z2 = true:=by rw [← hZ2];exact a0Y _
 have hown:A8 S.own 11 = false:=by kernel_rfl
 refine p5 hp (by simp [p7,hp1,hp2,c5,j9]) (c6 rfl rfl (by kernel_rfl) Tryz.func11 rfl (by simp [Tryz.f11]) ?_)
 simp only [Tryz.f11]
 refine hide ?_;intro Q5 hQ5
 repeat' (first
  | (replace hQ5:=hQ5;simp [hl1,hl2,a0E,L8,hs,hc])
  | refine hQ5 _ _ _ ?_
  | refine dF (id:=6) [0,1,2,3,4,5,6,7,8,9,10,11,12,13,14,15,16,17,18,19,20,21,22,23,24,25,26,27,28] [] ?_)
 refine F5 hp L (fun a r fr hh=>(2 ≤ hh.next∧hh.f 0 = some ⟨0,[11],true,[ii code,Z1,.str lo,.str hi,ii group,ii gen,ii old,ii to,ii do_,.str at_,bs st]⟩∧hh.f 1 = some ⟨0,[11],true,[ii code,Z2,.str lo,.str hi,ii group,ii gen,ii old,ii to,ii do_,.str at_,bs st']⟩)∧∃ j:Nat→AV,fr = (j 0::j 1::(.one (.ptr 0 0 0))::(.one (.ptr 1 0 0))::j 4::(.one (ii a.length))::j 6::j 7::j 8::j 9::j 10::j 11::j 12::j 13::j 14::j 15::j 16::j 17::j 18::j 19::j 20::j 21::j 22::j 23::j 24::j 25::j 26::j 27::j 28::j 29::j 30::j 31::j 32::j 33::j 34::j 35::j 36::j 37::j 38::j 39::j 40::j 41::j 42::j 43::j 44::j 45::j 46::j 47::j 48::j 49::j 50::j 51::j 52::j 53::j 54::j 55::j 56::j 57::j 58::j 59::j 60::j 61::j 62::j 63::j 64::j 65::j 66::j 67::j 68::j 69::j 70::j 71::j 72::j 73::j 74::j 75::j 76::j 77::j 78::j 79::j 80::j 81::j 82::j 83::j 84::j 85::j 86::j 87::j 88::j 89::j 90::j 91::j 92::j 93::j 94::j 95::j 96::j 97::j 98::j 99::j 100::j 101::j 102::j 103::j 104::j 105::j 106::j 107::j 108::j 109::j 110::j 111::j 112::j 113::[])) ?_ ?_ _ _ ?_
 rotate_left 2
 ·exact ⟨⟨by simp,by simp,by simp⟩,s9 (by simp)⟩
 ·rintro a x r fr hh hll ⟨⟨i0,i1,i2⟩,j,rfl⟩
  have hil:a.length < L.length:=by rw [hll];simp
  obtain ⟨x1,x2⟩:=hF x (by rw [hll];simp)
  have ho3:ls o = a.map E++E x::r.map E:=by rw [ho1,hll];simp
  have hso:some (ls o) = o:=by rw [ho3];exact (S7 ho3).symm
  have ho2:ls o' = a.map F++F x::r.map F:=by rw [ho,hll];simp
  have hso':some (ls o') = o':=by rw [ho2];exact (S7 ho2).symm
  have hix1:=J8 (P:=Tryz.prog) (enc:=c8) (s:=2) (l:=ls o) (i:=a.length) Tryz.underlying48 (by simp) (by omega) (by rw [ho1,List.length_map];exact hil)
  rw [hso,hZ1] at hix1
  have hix2:=J8 (P:=Tryz.prog) (enc:=c8) (s:=2) (l:=ls o') (i:=a.length) Tryz.underlying48 (by simp) (by omega) (by rw [ho,List.length_map];exact hil)
  rw [hso',hZ2] at hix2
  have r10:=I4 (enc:=c8) (s:=2) A7 (a.map E) (E x) (r.map E) (o:=0) (n:=1) (by omega)
  have r11:=I4 (enc:=c8) (s:=2) A7 (a.map E) (E x) (r.map E) (o:=1) (n:=1) (by omega)
  have r20:=I4 (enc:=c8) (s:=2) A7 (a.map F) (F x) (r.map F) (o:=0) (n:=1) (by omega)
  have r21:=I4 (enc:=c8) (s:=2) A7 (a.map F) (F x) (r.map F) (o:=1) (n:=1) (by omega)
  rw [← ho3,List.length_map] at r10 r11
  rw [← ho2,List.length_map] at r20 r21
  simp only [Nat.add_zero] at r10 r20
  obtain ⟨⟨xn,xr⟩,hx⟩:∃ y,E x = y:=⟨_,rfl⟩
  obtain ⟨⟨yn,yr⟩,hy⟩:∃ y,F x = y:=⟨_,rfl⟩
  rw [hx] at r10 r11 x1 x2
  rw [hy] at r20 r21 x1 x2
  simp only at x1 x2
  subst x1
  replace r10:sub (cat c8 (ls o)) (a.length * 2) 1 = some [.str yn]:=r10
  replace r11:sub (cat c8 (ls o)) (a.length * 2 + 1) 1 = some (F6 xr):=r11
  replace r20:sub (cat c8 (ls o')) (a.length * 2) 1 = some [.str yn]:=r20
  replace r21:sub (cat c8 (ls o')) (a.length * 2 + 1) 1 = some (F6 yr):=r21
  have hw:IntKind.i64.wrap ((a.length:Int) + 1) = ((a++[x]).length:Int):=by rw [M9];exact F0 (by omega)
  generalize hA2:a++[x] = A2 at *
  generalize hC1:cat c8 (ls o) = C1 at *
  generalize hC2:cat c8 (ls o') = C2 at *
  generalize F6 xr = X1 at *
  generalize F6 yr = X2 at *
  first | (refine hide ?_;intro Q6 hQ6) | have hQ6:=True.intro
  repeat' (first
   | (replace hQ6:=hQ6;simp [L8,hl1,i1,i2,hix1,hix2,r10,r11,r20,r21,hil,x2,hw])
   | (refine hQ6 _ _ _ ?_;clear hQ6 Q6;first | simp only [] | simp [L8,hl1,hl2,i1,i2,hix1,hix2,r10,r11,r20,r21,hil,x2,hw,t7,p9,p6,s7,J3,c5,j9,p0,hown] | skip)
   | (refine D3 (by assumption) ?_;(try clear hQ6);first | simp only [] | simp [L8,hl1,hl2,i1,i2,hix1,hix2,r10,r11,r20,r21,hil,x2,hw,t7,p9,p6,s7,J3,c5,j9,p0,hown] | skip)
   | ((fail_if_success replace hQ6:=hQ6);(first | refine hide ?_ | refine u6 ?_ | refine u7 ?_);intro Q6 hQ6)
   | refine dF (id:=6) [0,1,2,3,4,5,6,7,8,9,10,11,12,13,14,15,16,17,18,19,20,21,22,23,24,25,26,27,28] [] ?_)
  exact ⟨⟨i0,i1,i2⟩,s9 (by simp)⟩
 ·rintro fr hh ⟨⟨i0,i1,i2⟩,j,rfl⟩
  first | (refine hide ?_;intro Q7 hQ7) | have hQ7:=True.intro
  repeat' (first
   | (replace hQ7:=hQ7;simp [hl1,i1])
   | (refine hQ7 _ _ _ ?_;clear hQ7 Q7;first | simp only [] | simp [hl1,i1,t7,p9,p6,s7,J3,c5,j9,p0,hown] | skip)
   | (refine D3 (by assumption) ?_;(try clear hQ7);first | simp only [] | simp [t7,p9,p6,c5,p0,hown] | skip)
   | ((fail_if_success replace hQ7:=hQ7);(first | refine hide ?_ | refine u6 ?_ | refine u7 ?_);intro Q7 hQ7)
   | refine dF (id:=6) [0,1,2,3,4,5,6,7,8,9,10,11,12,13,14,15,16,17,18,19,20,21,22,23,24,25,26,27,28] [] ?_)
theorem r0t (v:Wm.Value):EqV v (m0N v):=by
 unfold m0N
 split
 ·rename_i h;exact ⟨h.symm,fun _=>rfl,fun e=>by rw [h] at e;cases e⟩
 ·exact ⟨rfl,fun _=>rfl,fun _=>rfl⟩
theorem EqV.symm {v w:Wm.Value} (e:EqV v w):EqV w v:=⟨e.k.symm,fun h=>(e.b (by rw [← e.k];exact h)).symm,fun h=>(e.n (by rw [← e.k];exact h)).symm⟩
theorem x0D (x:Named) (hx:S1 x.r = true):EqN x (L9 x)∧EqN (L9 x) x:=by
 refine ⟨⟨rfl,fun h=>j0Y (L:=ls x.r) id Z6 (fun c=>ls c.l) id Z7 (by simp) (by simp [L9,c0A]) (fun c hc=>⟨rfl,by simp,by simp [Z6], ?_,fun y _=>⟨rfl,r0t _⟩⟩) ?_ h⟩,⟨rfl,fun h=>j0Y (L:=ls x.r) Z6 id (fun c=>ls c.l) Z7 id (by simp [L9,c0A]) (by simp) (fun c hc=>⟨rfl,by simp [Z6],by simp, ?_,fun y _=>⟨rfl,(r0t _).symm⟩⟩) ?_ h⟩⟩
 ·have:=(c0W hx).2 c hc;omega
 ·have:=(c0W hx).1;omega
 ·have:=(c0W hx).2 c hc;omega
 ·have:=(c0W hx).1;omega
theorem F0v {l:List Named} (ok:TblOk l) {x:Named} (hx:x ∈ l):S1 x.r = true:=by have:=M7 x.r;rwa [(ok.row x hx).1] at this
structure One (p:Pt):Prop where
 sp:p.t.span = ⟨[],[]⟩
 fr:p.t.fr = false
 rows:TblOk p.t.rows
 cache:CchOk p.t.cache
theorem d0z (n:BL):N6 ⟨[],[]⟩ n = true:=by simp [N6,blt]
theorem j0z:TblOk []:=⟨rfl,by simp,by simp,by simp⟩
theorem r0f:CchOk []:=.of rfl (by simp)
theorem x0C {p:Pt} (o:One p):SpI [p.t] p.t.rows:=by
 refine ⟨o.sp,fun t ht=>?_,by simp,o.rows⟩
 rw [List.mem_singleton.1 ht]
 exact ⟨by rw [o.sp];rfl,o.fr,o.rows,o.cache,fun x _=>by rw [o.sp];exact d0z _⟩
theorem B0f {h:H} {s:Nat} {sp:AS} {p:Pt} {last code:Int} (w:StAt h s sp [p] last code) (po:One p) (client seq:Int) (z9:Int) (B6:BL) (I0:BL) (l7:Bool) (i9:Bool) (l9:BL) (c7:Int) (l0:Option BL) (l8:Nat) (o_l:Option (List Change)) (u9:Int) (oi:OpIs ⟨z9,B6,I0,⟨l7,i9,l9,⟨c7,l0,l8⟩⟩,o_l,u9⟩) (hc:0 ≤ client∧client ≤ 255) (hs:1 ≤ seq∧seq ≤ 1073741824) (hfr:∀ x ∈ p.t.cache,x.client = client→x.seq < seq) :
  ∃ h' p',W K 12 [.one (.ptr s 0 0),.one (ii client),.one (ii seq),.agg [ii 1,ii z9,.str B6,.str I0,.bool l7,.bool i9,.str l9,ii c7,bs l0,.flt l8,sl 6 l6 o_l,ii u9,.str [],.str [],ii 0,.str [],ii 0,ii 0,.nilslc]] h = some (.ret (.agg (l5 (opT ⟨[],[]⟩ p.t.rows ⟨z9,B6,I0,⟨l7,i9,l9,⟨c7,l0,l8⟩⟩,o_l,u9⟩).1)) h') ∧
   p'.t = ⟨⟨[],[]⟩,p.t.gen,false,(opT ⟨[],[]⟩ p.t.rows ⟨z9,B6,I0,⟨l7,i9,l9,⟨c7,l0,l8⟩⟩,o_l,u9⟩).2,(a0d p.t.cache client seq (some (b0j (opT ⟨[],[]⟩ p.t.rows ⟨z9,B6,I0,⟨l7,i9,l9,⟨c7,l0,l8⟩⟩,o_l,u9⟩).1))).1⟩∧One p'∧StAt h' s sp [p'] last code∧Fp h h' (fpS s sp [p]) (fpS s sp [p']):=by
 have w':StAt h s sp ([]++p::[]) last code:=w
 have hf:b0Q B6 none ([]++p::[]) = some p:=by simp [b0Q,po.sp,d0z]
 obtain ⟨h',p',e,e1,e2,e3,e4⟩:=u0H w' (by simp) client seq z9 B6 I0 l7 i9 l9 c7 l0 l8 o_l u9 oi.ok (by have:=oi.n;simp only at this;omega) (by have:=oi.cv;simp only at this;omega) hf (by rw [po.sp];exact d0z _) po.fr (by rw [po.sp];rfl) po.rows po.cache (k0v hs.1 hfr) hc hs.2
 rw [po.sp] at e e2
 exact ⟨h',p',e,e2,⟨by rw [e2],by rw [e2],by rw [e2];exact l0F po.rows _ _,by rw [e2];exact p0f po.cache _ _ _⟩,e3,e4⟩
abbrev v0C (x:Nat):List Change:=[⟨5,[120],5,⟨2,none,x⟩⟩]
def f0V (row:BL) (x:Nat):Wm.Op:=⟨2,row,[],a0l,some (v0C x),0⟩
theorem B0e (row:BL) (x:Nat) (h:H):W K 26 [.one (.str row),.one (.flt x)] h = some (.ret (.agg [ii 1,ii 2,.str row,.str [],.bool false,.bool false,.str [],ii 0,.nilslc,.flt 0,sl 6 l6 (some (v0C x)),ii 0,.str [],.str [],ii 0,.str [],ii 0,ii 0,.nilslc]) h):=by
 have hown:A8 S.own 26 = false:=by kernel_rfl
 refine p5 hp (by simp [p7,c5]) (c6 rfl rfl (by kernel_rfl) Tryz.func26 rfl (by simp [Tryz.f26]) ?_)
 simp only [Tryz.f26]
 refine hide ?_;intro Q1 hQ1
 repeat' (first
  | (replace hQ1:=hQ1;simp [sl,cat,l6,B7,t7,p9,p6,c5,p0,hown])
  | refine hQ1 _ _ _ ?_)
theorem w0G {row:BL} (hr:J4 row = true) (x:Nat):OpIs (f0V row x):=by
 have:=a0m hr
 refine ⟨?_,this,by simp [f0V],by simp [f0V,a0l],by simp [f0V,a0l],by simp [f0V],by simp [f0V]⟩
 have hx:J4 [120] = true:=rfl
 simp [f0R,f0V,hr,hx,i0v,a0l,F9,l0k,S5]
theorem y0u (h:H):StAt (h.new ⟨0,[3],true,[.nilslc,ii 0,ii 0]⟩) h.next .nilslc [] 0 0:=⟨by simp,by simp,.inl ⟨rfl,rfl⟩,by simp,by simp [fpS,u4]⟩
theorem q0n (h:H):W K 31 [.one .nilslc] h = some (.ret (.one (.bool true)) h):=by
 have hown:A8 S.own 31 = false:=by kernel_rfl
 refine p5 hp (by simp [p7,c5]) (c6 rfl rfl (by kernel_rfl) Tryz.func31 rfl (by simp [Tryz.f31]) ?_)
 simp only [Tryz.f31]
 refine hide ?_;intro Q2 hQ2
 repeat' (first
  | (replace hQ2:=hQ2;simp [t7])
  | refine hQ2 _ _ _ ?_)
 refine S0 hp 0 (fun i fr hh=>True∧∃ j:Nat→AV,fr = (j 0::j 1::j 2::j 3::j 4::j 5::j 6::j 7::(.one (ii 0))::(.one (ii 0))::j 10::j 11::j 12::j 13::j 14::j 15::j 16::j 17::j 18::j 19::j 20::j 21::j 22::j 23::j 24::j 25::j 26::j 27::j 28::j 29::[])) ?_ ?_ _ _ ⟨trivial,s9 (by simp)⟩
 ·intro i fr hh hi;omega
 ·rintro fr hh ⟨_,j,rfl⟩
  first | (refine hide ?_;intro Q3 hQ3) | have hQ3:=True.intro
  repeat' (first
   | (replace hQ3:=hQ3;simp [t7])
   | (refine hQ3 _ _ _ ?_;clear hQ3 Q3;first | simp only [] | simp [t7,p9,p6,s7,J3,c5,j9,p0,hown] | skip)
   | (refine D3 (by assumption) ?_;(try clear hQ3);first | simp only [] | simp [t7,p9,p6,c5,p0,hown] | skip)
   | ((fail_if_success replace hQ3:=hQ3);(first | refine hide ?_ | refine u6 ?_ | refine u7 ?_);intro Q3 hQ3))
theorem w0b (h:H):∃ h',W K 8 [.one .nilslc] h = some (.ret (.one (.ptr h.next 0 0)) h')∧StAt h' h.next .nilslc [] 0 0∧Kept h h':=by
 obtain ⟨h8,e8,w8,g8⟩:=p0M (y0u h) (by simp)
 have hs:Y3 pLt ([]:List Pt) = []:=rfl
 rw [hs] at w8 g8
 have kp:Kept h h8:=⟨by have:=g8.next;simp at this;omega,fun x hx=>by rw [g8.keep x (by simp;omega) (by simp [fpS,u4];omega),p8 (by omega)]⟩
 obtain ⟨P,hP⟩:∃ P:CR→Prop,P = fun r=>r = .ret (.one (.ptr h.next 0 0)) h8:=⟨_,rfl⟩
 suffices hh:∃ r,W K 8 [.one .nilslc] h = some r∧P r by
  rw [hP] at hh
  obtain ⟨r,e,rfl⟩:=hh
  exact ⟨h8,e,w8,kp⟩
 have hA:=q0n
 refine J6 hp rfl rfl rfl Tryz.func8 rfl (by simp [Tryz.f8]) ?_
 simp only [Tryz.f8]
 refine hide ?_;intro Q4 hQ4
 repeat' (first
  | (replace hQ4:=hQ4;simp)
  | refine hQ4 _ _ _ ?_
  | (first | refine dF (id:=9) [0,1,2,3,4,5,6,7,8,9,10] [] ?_ | refine dF (id:=10) [0,1,2,3,4,5,6,7,8,9,10,11,12,13,14,15,16,17] [(4,9),(4,10),(6,9),(6,10),(8,9),(8,10)] ?_))
 refine S0 hp 0 (fun i fr hh=>hh = h.new ⟨0,[3],true,[.nilslc,ii 0,ii 0]⟩∧∃ j:Nat→AV,fr = ((.one .nilslc)::j 1::j 2::(.one (.ptr h.next 0 0))::(.one .nilslc)::j 5::j 6::j 7::j 8::j 9::(.one (ii 0))::(.one (ii 0))::j 12::j 13::j 14::j 15::j 16::j 17::j 18::j 19::j 20::j 21::j 22::j 23::j 24::j 25::j 26::j 27::j 28::j 29::j 30::j 31::j 32::j 33::j 34::j 35::j 36::j 37::j 38::j 39::j 40::j 41::j 42::j 43::j 44::j 45::j 46::j 47::j 48::j 49::j 50::j 51::j 52::j 53::j 54::j 55::j 56::j 57::j 58::j 59::j 60::j 61::j 62::j 63::j 64::j 65::j 66::[])) ?_ ?_ _ _ ⟨rfl,s9 (by simp)⟩
 ·intro i fr hh hi;omega
 ·rintro fr hh ⟨rfl,j,rfl⟩
  first | (refine hide ?_;intro Q5 hQ5) | have hQ5:=True.intro
  repeat' (first
   | (replace hQ5:=hQ5;simp [hA,e8])
   | (refine hQ5 _ _ _ ?_;clear hQ5 Q5;first | simp only [] | simp [hA,e8] | skip)
   | (refine D3 (by assumption) ?_;(try clear hQ5);first | simp only [] | simp [hA] | skip)
   | ((fail_if_success replace hQ5:=hQ5);(first | refine hide ?_ | refine u6 ?_ | refine u7 ?_);intro Q5 hQ5)
   | (first | refine dF (id:=9) [0,1,2,3,4,5,6,7,8,9,10] [] ?_ | refine dF (id:=10) [0,1,2,3,4,5,6,7,8,9,10,11,12,13,14,15,16,17] [(4,9),(4,10),(6,9),(6,10),(8,9),(8,10)] ?_))
  rw [hP]
theorem x0S {h:H} {s:Nat} {sp:AS} {ps:List Pt} {last code:Int} (w:StAt h s sp ps last code) (hn:ps.length < 1000000) (client seq:Int) (z9:Int) (B6:BL) (I0:BL) (l7:Bool) (i9:Bool) (l9:BL) (c7:Int) (l0:Option BL) (l8:Nat) (o_l:Option (List Change)) (u9:Int) (oo:f0R ⟨z9,B6,I0,⟨l7,i9,l9,⟨c7,l0,l8⟩⟩,o_l,u9⟩ = true) (ol:(ls o_l).length < 9223372036854775807) (hf:b0Q B6 none ps = none) :
  ∃ h',W K 12 [.one (.ptr s 0 0),.one (ii client),.one (ii seq),.agg [ii 1,ii z9,.str B6,.str I0,.bool l7,.bool i9,.str l9,ii c7,bs l0,.flt l8,sl 6 l6 o_l,ii u9,.str [],.str [],ii 0,.str [],ii 0,ii 0,.nilslc]] h = some (.ret (.agg (l5 (noA 26))) h')∧Kept h h'∧StAt h' s sp ps last code:=by
 obtain ⟨B,hB⟩:∃ B:Blk,B = ⟨0,[19],true,[ii 1,ii z9,.str B6,.str I0,.bool l7,.bool i9,.str l9,ii c7,bs l0,.flt l8,sl 6 l6 o_l,ii u9,.str [],.str [],ii 0,.str [],ii 0,ii 0,.nilslc]⟩:=⟨_,rfl⟩
 obtain ⟨h2,hh2⟩:∃ h2,(h.new B).new P7 = h2:=⟨_,rfl⟩
 have e1:=n0d (((w.new B).new P7).new ⟨0,[11],true,[ii z9,.str B6,.str I0,.bool l7,.bool i9,.str l9,ii c7,bs l0,.flt l8,sl 6 l6 o_l,ii u9]⟩ |>.new P7) hn B6
 rw [hf] at e1
 simp only [i0P] at e1
 have hno:=u0g 26
 have hCl:(l5 (noA 26)).length = 11:=rfl
 have hCs:sub (l5 (noA 26)) 0 11 = some (l5 (noA 26)):=J2 hCl
 have e2:W K 39 [.one (.ptr s 0 0),.one (ii client),.one (ii seq),.agg [ii z9,.str B6,.str I0,.bool l7,.bool i9,.str l9,ii c7,bs l0,.flt l8,sl 6 l6 o_l,ii u9]] ((h.new B).new P7) = some (.ret (.agg (l5 (noA 26))) ((((h.new B).new P7).new ⟨0,[11],true,[ii z9,.str B6,.str I0,.bool l7,.bool i9,.str l9,ii c7,bs l0,.flt l8,sl 6 l6 o_l,ii u9]⟩).new ⟨0,[11],true,l5 (noA 26)⟩)):=by
  generalize l5 (noA 26) = C at *
  rw [hh2] at e1 ⊢
  refine A5 hp rfl rfl rfl Tryz.func39 rfl (by simp [Tryz.f39]) ?_
  simp only [Tryz.f39]
  refine hide ?_;intro Q6 hQ6
  repeat' (first
   | (replace hQ6:=hQ6;simp [-lay,K6,hCl,hCs,F0C,e1,hno,P8])
   | refine hQ6 _ _ _ ?_)
 rw [hB] at e2
 have e:=q0Q (B8:=1) client seq z9 B6 I0 l7 i9 l9 c7 l0 l8 o_l u9 [] [] 0 [] 0 0 none rfl (by simp only [f0Y,if_true];exact oo) ol (by simpa only [B7] using e2) (by simp [K7])
 simp only [B7] at e
 have kp:Kept h (((((h.new ⟨0,[19],true,[ii 1,ii z9,.str B6,.str I0,.bool l7,.bool i9,.str l9,ii c7,bs l0,.flt l8,sl 6 l6 o_l,ii u9,.str [],.str [],ii 0,.str [],ii 0,ii 0,.nilslc]⟩).new P7).new ⟨0,[11],true,[ii z9,.str B6,.str I0,.bool l7,.bool i9,.str l9,ii c7,bs l0,.flt l8,sl 6 l6 o_l,ii u9]⟩).new ⟨0,[11],true,l5 (noA 26)⟩).set (h.next + 1) ⟨0,[11],true,l5 (noA 26)⟩):=⟨by simp;omega,fun x hx=>by rw [p4,if_neg (by omega),p8 (by simp;omega),p8 (by simp;omega),p8 (by simp;omega),p8 (by omega)]⟩
 exact ⟨_,e,kp,w.kept kp⟩
theorem A0e (c:Nat→Option (List AS)) (b v o:Nat):bin Tryz.prog c .eql 23 (.one (.ptr b v o)) (.one .nilptr) = some (.bool false):=by simp [bin,g0k,a0x]
theorem r0w (h:H):∃ h' s sp p,W K 8 [.one (.slc h.next 0 0 1 4 none)] (h.new ⟨0,[4],true,[.str [],.str [],ii 0,ii 1]⟩) = some (.ret (.one (.ptr s 0 0)) h')∧StAt h' s sp [p] 1 0∧p.t = ⟨⟨[],[]⟩,1,false,[],[]⟩∧One p∧Kept h h'∧(∀ x ∈ fpS s sp [p],h.next ≤ x):=by
 obtain ⟨h',sp,p,e,w,e1,k,l⟩:=s0L (h:=h.new ⟨0,[4],true,[.str [],.str [],ii 0,ii 1]⟩) (b:=h.next) (by simp) (by simp)
 refine ⟨h',_,sp,p,e,w,e1,⟨by rw [e1],by rw [e1],by rw [e1];exact j0z,by rw [e1];exact r0f⟩,⟨by have:=k.1;simp at this;omega,fun x hx=>by rw [k.2 x (by simp;omega),p8 (by omega)]⟩,fun x hx=>by have:=l x hx;simp at this;omega⟩
theorem s0V:(f0w [] (f0V [110] 4617315517961601024)).2 = 0∧(f0w [] (f0V [110] 4617315517961601024)).1.length = 1:=by decide +kernel
theorem s0f (h:H):∃ h',W K 15 [] h = some (.ret (.one (.bool true)) h')∧Kept h h':=by
 have hw:=r0D h
 obtain ⟨h2,s,sp2,p,e2,w2,ep,po,k2,l2⟩:=r0w h
 have hps:p.t.span.lo = []:=by rw [po.sp]
 have hph:p.t.span.hi = []:=by rw [po.sp]
 have hI:SpI ((([]:List Pt)++p::[]).map (·.t)) p.t.rows:=x0C po
 obtain ⟨h3,sp3,pa,pb,e3,w3,I3,ta3,tb3,g3⟩:=q0m (l1:=[]) (l2:=[]) (k:=[109]) (g:=2) w2 (by simp) hI 1 1 (by simp) (by simp) (by rw [po.sp];exact d0z _) (by rw [hps];simp) (by omega) (by omega)
 rw [hps,hph] at e3
 simp only [w0L] at e3
 simp only [List.nil_append] at w3 g3 I3
 obtain ⟨C0,hC0⟩:∃ C,l5 (noA 0) = C:=⟨_,rfl⟩
 have hCl:C0.length = 11:=by rw [← hC0];rfl
 have hCs:sub C0 0 11 = some C0:=J2 hCl
 have hCz:sub C0 0 1 = some [ii 0]:=by rw [← hC0];rfl
 obtain ⟨C1,hC1⟩:∃ C,l5 (noA 26) = C:=⟨_,rfl⟩
 have hDl:C1.length = 11:=by rw [← hC1];rfl
 have hDs:sub C1 0 11 = some C1:=J2 hDl
 have hDz:sub C1 0 1 = some [ii 26]:=by rw [← hC1];rfl
 rw [hC0] at e3
 have w3':StAt (h3.new ⟨0,[11],true,C0⟩) s sp3 ([pa]++pb::[]) 2 0:=w3.new _
 have l3:∀ x ∈ fpS s sp3 [pa,pb],h.next ≤ x:=fun x hx=>by
  rcases g3.own x hx with e | e
  ·exact l2 x e
  ·have:=k2.1;omega
 have k3:Kept h h3:=⟨by have:=g3.next;have:=k2.1;omega,fun x hx=>by rw [g3.keep x (by have:=k2.1;omega) (fun e=>by have:=l2 x e;omega),k2.2 x hx]⟩
 have oi:=w0G (row:=[110]) rfl 4617315517961601024
 have hpa:pa.t = ⟨⟨[],[109]⟩,2,false,[],[]⟩:=by rw [ta3,ep];rfl
 have hpb:pb.t = ⟨⟨[109],[]⟩,2,false,[],[]⟩:=by rw [tb3,ep];rfl
 obtain ⟨h4,pb',e4,d4,t4,w4,g4⟩:=u0H w3' (by simp) 1 2 2 [110] [] false false [] 0 none 0 (some (v0C 4617315517961601024)) 0 oi.ok (by simp) (by simp) (by
  have h1:N6 ⟨[],[109]⟩ [110] = false:=by decide
  have h2:N6 ⟨[109],[]⟩ [110] = true:=by decide
  simp [b0Q,hpa,hpb,h1,h2]) (by rw [hpb];decide) (by rw [hpb]) (by rw [hpb];decide) (by rw [hpb];exact j0z) (by rw [hpb];exact r0f) (by rw [hpb];rfl) (by omega) (by omega)
 rw [hpb] at e4 t4
 simp only [show ((2:Int) = 1) = False from eq_false (by omega),opT,if_true,if_false] at e4 t4
 have hfc:=s0V
 simp only [f0V,a0l] at hfc
 rw [hfc.1,hC0] at e4
 simp only [List.cons_append,List.nil_append] at w4 g4
 have l4:∀ x ∈ fpS s sp3 [pa,pb'],h.next ≤ x:=fun x hx=>by
  rcases g4.own x hx with e | e
  ·exact l3 x e
  ·have:=k3.1;simp at e;omega
 have n4:=g4.next
 simp only [A0] at n4
 have k4:Kept h h4:=⟨by have:=k3.1;omega,fun x hx=>by rw [g4.keep x (by have:=k3.1;simp;omega) (fun e=>by have:=l3 x e;omega),p8 (by have:=k3.1;omega),k3.2 x hx]⟩
 have f4:h4.f h3.next = some ⟨0,[11],true,C0⟩:=by rw [g4.keep _ (by simp) (fun e=>by have:=w3.fp_lt _ e;omega)];simp
 have w4':=w4.new ⟨0,[11],true,C0⟩
 have e5:=w0Y w4' (by simp)
 have hsm:b0o false ([pa,pb'].map (·.t)) = [a0R pa.t,a0R pb'.t]:=by simp [b0o,hpa,t4]
 rw [hsm] at e5
 simp only [r0L] at e5
 obtain ⟨h6,e6,w6,k6⟩:=w0b (h4.new ⟨0,[11],true,C0⟩)
 obtain ⟨h7,e7,k7,w7⟩:=x0S w6 (by simp) 1 1 2 [110] [] false false [] 0 none 0 (some (v0C 4617315517961601024)) 0 oi.ok (by simp) rfl
 rw [hC1] at e7
 simp only [A0] at e6 e7 w7
 have n6:=k6.1
 have n7:=k7.1
 simp only [A0] at n6
 have kk:∀ x,x < h4.next + 1→h7.f x = (h4.new ⟨0,[11],true,C0⟩).f x:=fun x hx=>by rw [k7.2 x (by omega),k6.2 x (by simpa using hx)]
 have f7a:h7.f h3.next = some ⟨0,[11],true,C0⟩:=by rw [kk _ (by omega),p8 (by omega)];exact f4
 have f7b:h7.f h4.next = some ⟨0,[11],true,C0⟩:=by rw [kk _ (by omega)];simp
 have w8:StAt (h7.new ⟨0,[11],true,C1⟩) s sp3 [pa,pb'] 2 0:=(((w4'.kept k6).kept k7).new _)
 have e8:=w0e w8 (by simp) (fun q hq=>by
  simp only [List.mem_cons,List.not_mem_nil,or_false] at hq
  rcases hq with rfl | rfl
  ·rw [hpa];exact j0z
  ·rw [t4];exact w0H j0z _)
 have hrl:(b0S ([pa,pb'].map (·.t))).length = 1:=by simp [b0S,hpa,t4];exact hfc.2
 have hla8:∀ (u:TypeId) (h':H),P6 (sl 2 c8 (nz (b0S ([pa,pb'].map (·.t))))) (some (.slice u)) h' = some (one (ii 1) h'):=fun u h'=>by rw [S8,b0G,hrl];rfl
 generalize sl 2 c8 (nz (b0S ([pa,pb'].map (·.t)))) = Z at *
 have hla5:∀ (u:TypeId) (h':H),P6 (sl 4 M6 (some [a0R pa.t,a0R pb'.t])) (some (.slice u)) h' = some (one (ii 2) h'):=fun u h'=>S8 ..
 have hix:=J8 (P:=Tryz.prog) (enc:=M6) (s:=4) (l:=[a0R pa.t,a0R pb'.t]) (i:=1) Tryz.underlying25 (by simp) (by omega) (by simp)
 have hsub:sub (cat M6 [a0R pa.t,a0R pb'.t]) 7 1 = some [ii 2]:=by rw [hpa,t4];rfl
 generalize cat M6 [a0R pa.t,a0R pb'.t] = CT at *
 generalize sl 4 M6 (some [a0R pa.t,a0R pb'.t]) = ZT at *
 have m1:¬ h3.next = h7.next:=by omega
 have m2:¬ h4.next = h7.next:=by omega
 have m3:¬ h3.next = h4.next:=by omega
 have eop:=B0e [110] 4617315517961601024
 simp only [B7] at e4 e7
 refine ⟨h7.new ⟨0,[11],true,C1⟩, ?_,⟨by simp;have:=k4.1;omega,fun x hx=>by rw [p8 (by have:=k4.1;omega),kk x (by have:=k4.1;omega),p8 (by have:=k4.1;omega),k4.2 x hx]⟩⟩
 generalize sl 6 l6 (some (v0C 4617315517961601024)) = ZO at *
 refine A5 hp rfl rfl rfl Tryz.func15 rfl (by simp [Tryz.f15]) ?_
 simp only [Tryz.f15]
 refine hide ?_;intro Q1 hQ1
 repeat' (first
  | (replace hQ1:=hQ1;simp [-lay,O6,O5,V6,K6,hCl,hCz,hDl,hDz,A0e,hw,e2,e3,eop,e4,e5,e6,e7,f7a,f7b,e8,hla8,hla5,hix,hsub,m1,m2])
  | refine hQ1 _ _ _ ?_)
theorem B0T:∀ l,FitL [.int .i64,.int .i64,.int .i64,.bool,.int .i64,.flt,.slc [.int .u8]] l→∃ x:KC,(x0Z x∧x.v.x < 2 ^ 64)∧l = d0I x:=by
 intro l hf
 obtain ⟨a1,r1,rfl,g1,hf⟩:=M4 hf
 obtain ⟨a2,r2,rfl,g2,hf⟩:=M4 hf
 obtain ⟨a3,r3,rfl,g3,hf⟩:=M4 hf
 obtain ⟨a4,r4,rfl,g4,hf⟩:=M4 hf
 obtain ⟨a5,r5,rfl,g5,hf⟩:=M4 hf
 obtain ⟨a6,r6,rfl,g6,hf⟩:=M4 hf
 obtain ⟨a7,r7,rfl,g7,hf⟩:=M4 hf
 cases k0C hf
 obtain ⟨n1,b1,rfl⟩:=b0D g1
 obtain ⟨n2,b2,rfl⟩:=b0D g2
 obtain ⟨n3,b3,rfl⟩:=b0D g3
 obtain ⟨n4,rfl⟩:=h0F g4
 obtain ⟨n5,b5,rfl⟩:=b0D g5
 obtain ⟨n6,b6,rfl⟩:=r0s g6
 obtain ⟨n7,b7,rfl⟩:=x0a g7
 exact ⟨⟨n1,n2,n3,⟨n4,n5,n6,n7⟩⟩,⟨⟨b1,b2,b3,b5⟩,b6⟩,rfl⟩
def KOn (x:KO):Prop:=x.v.x < 2 ^ 64∧∀ c ∈ ls x.l,c.v.x < 2 ^ 64
abbrev koS:List CS:=[.int .i64,.int .i64,.int .i64,.int .i64,.int .i64,.bool,.bool,.bool,.int .i64,.flt,.slc [.int .u8],.slc [.int .i64,.int .i64,.int .i64,.bool,.int .i64,.flt,.slc [.int .u8]]]
theorem t0N:∀ l,FitL koS l→∃ x:KO,(u0o x∧KOn x)∧l = Y4 x:=by
 intro l hf
 obtain ⟨x1,r1,rfl,q1,hf⟩:=M4 hf
 obtain ⟨x2,r2,rfl,q2,hf⟩:=M4 hf
 obtain ⟨x3,r3,rfl,q3,hf⟩:=M4 hf
 obtain ⟨x4,r4,rfl,q4,hf⟩:=M4 hf
 obtain ⟨x5,r5,rfl,q5,hf⟩:=M4 hf
 obtain ⟨x6,r6,rfl,q6,hf⟩:=M4 hf
 obtain ⟨x7,r7,rfl,q7,hf⟩:=M4 hf
 obtain ⟨x8,r8,rfl,q8,hf⟩:=M4 hf
 obtain ⟨x9,r9,rfl,q9,hf⟩:=M4 hf
 obtain ⟨x10,r10,rfl,q10,hf⟩:=M4 hf
 obtain ⟨x11,r11,rfl,q11,hf⟩:=M4 hf
 obtain ⟨x12,r12,rfl,q12,hf⟩:=M4 hf
 cases k0C hf
 obtain ⟨n1,b1,rfl⟩:=b0D q1
 obtain ⟨n2,b2,rfl⟩:=b0D q2
 obtain ⟨n3,b3,rfl⟩:=b0D q3
 obtain ⟨n4,b4,rfl⟩:=b0D q4
 obtain ⟨n5,b5,rfl⟩:=b0D q5
 obtain ⟨n6,rfl⟩:=h0F q6
 obtain ⟨n7,rfl⟩:=h0F q7
 obtain ⟨n8,rfl⟩:=h0F q8
 obtain ⟨n9,b9,rfl⟩:=b0D q9
 obtain ⟨n10,b10,rfl⟩:=r0s q10
 obtain ⟨n11,b11,rfl⟩:=x0a q11
 obtain ⟨n12,b12,c12,rfl⟩:=n0m B0T q12
 exact ⟨⟨n1,n2,n3,n4,n5,n6,n7,⟨n8,n9,n10,n11⟩,n12⟩,⟨⟨b1,b2,b3,b4,b5,b9,fun c hc=>(c12 c hc).1⟩,b10,fun c hc=>(c12 c hc).2⟩,rfl⟩
end Go.Proofs.YtiagcnfmgigllaaGreat
namespace Wm
open Go Go.Ab
def vN (v:Value):Prop:=v.kind = 2→v.n < 2 ^ 64
def d0i (r:Row):Prop:=∀ c ∈ ls r,∀ x ∈ ls c.l,vN x.v
def n0a (l:List Named):Prop:=∀ x ∈ l,d0i x.r
def opN (o:Op):Prop:=∀ c ∈ ls o.l,vN c.v
theorem q0V {n:Nat} (h:n < 2 ^ 64):b0y n < 2 ^ 64:=by unfold b0y;split;decide;exact h
theorem y0J (a b:Nat):t0g a b < 2 ^ 64:=by
 unfold t0g
 cases h:(FloatKind.format .f64).add a b with
 | none=>decide
 | some r=>exact q0V ((FloatKind.format .f64).add_lt h)
theorem o0m {v:Value} (h:vN v):vN (N4 v):=by
 unfold N4
 split
 ·intro e;simp at e
 split
 ·rename_i h1 h2;intro _;exact q0V (h h2)
 ·intro e;simp at e
theorem a0B:d0i none:=by intro c hc;simp at hc
theorem W4 {r:Row} (h:d0i r):d0i (rowCopy r):=by
 unfold rowCopy
 split
 ·intro c hc x hx
  simp only [b0G,List.mem_map] at hc
  obtain ⟨c0,hc0,rfl⟩:=hc
  simp only [X7,b0G,List.mem_map] at hx
  obtain ⟨x0,hx0,rfl⟩:=hx
  exact o0m (h c0 hc0 x0 hx0)
 ·exact a0B
theorem A0G:vN zV:=by intro e;simp [zV] at e
theorem g0u {α:Type} {l:List α} {i:Nat} {x y:α} (hi:i ≤ l.length) (h:y ∈ l.insertIdx i x):y = x ∨ y ∈ l:=by
 rw [b0L hi] at h
 rcases List.mem_append.1 h with h | h
 ·exact .inr (List.mem_of_mem_take h)
 ·rcases List.mem_cons.1 h with h | h
  ·exact .inl h
  ·exact .inr (List.mem_of_mem_drop h)
theorem w0V {l:List Version} (h:∀ x ∈ l,vN x.v) {t:Int} {v:Value} (hv:vN v):∀ x ∈ k0T l t v,vN x.v:=by
 intro x hx
 unfold k0T at hx
 dsimp only at hx
 rcases g0u (m0u _ _) (List.mem_of_mem_take hx) with rfl | hx
 ·exact o0m hv
 ·exact h x (List.mem_filter.1 hx).1
theorem r0C {l:List Column} (h:∀ c ∈ l,∀ x ∈ ls c.l,vN x.v) (i:Nat):∀ x ∈ ls ((l[i]?).bind (·.l)),vN x.v:=by
 intro x hx
 cases hg:l[i]? with
 | none=>rw [hg] at hx;simp at hx
 | some y=>rw [hg] at hx;exact h y (List.mem_of_getElem? hg) x hx
theorem o0V {l:List Column} (h:∀ c ∈ l,∀ x ∈ ls c.l,vN x.v) {i:Nat} {n:BL} {f:List Version→List Version} (hf:∀ m,(∀ x ∈ m,vN x.v)→∀ x ∈ f m,vN x.v):∀ c ∈ d0T l i n f,∀ x ∈ ls c.l,vN x.v:=by
 intro c hc x hx
 unfold d0T at hc
 rcases List.mem_append.1 hc with hc | hc
 ·exact h c (List.mem_of_mem_take hc) x hx
 ·rcases List.mem_cons.1 hc with rfl | hc
  ·exact hf _ (r0C h i) x hx
  ·exact h c (List.mem_of_mem_drop hc) x hx
theorem h0S (l:List Column) (n:BL):X5 l n ≤ l.length:=m0u _ _
theorem o0K {r:Row} (h:d0i r) {n:BL} {t:Int} {v:Value} (hv:vN v):d0i (Y8 r n t v).1:=by
 have hc:=W4 h
 unfold Y8
 split
 ·exact a0B
 dsimp only
 split
 ·exact a0B
 ·refine W4 fun c hc2=>?_
  simp only [I6] at hc2
  refine o0V ?_ (fun m hm=>w0V hm hv) c hc2
  intro c hc3
  split at hc3
  ·exact hc c hc3
  ·rcases g0u (h0S _ _) hc3 with rfl | hc3
   ·intro x hx;simp at hx
   ·exact hc c hc3
theorem s0Z {r:Row} (h:d0i r) (n:BL) (t:Int):d0i (c0H r n t):=by
 have hc:=W4 h
 unfold c0H
 dsimp only
 split
 ·exact hc
 split
 ·exact W4 fun c hc2=>hc c ((List.eraseIdx_sublist _ _).subset hc2)
 ·refine W4 fun c hc2=>?_
  simp only [I6] at hc2
  exact o0V hc (fun m hm x hx=>r0C hc _ x (List.mem_filter.1 hx).1) c hc2
theorem n0t {r:Row} (h:d0i r) (n:BL):d0i (a0k r n):=by
 have hc:=W4 h
 unfold a0k
 dsimp only
 split
 ·exact W4 hc
 ·exact W4 fun c hc2=>hc c ((List.eraseIdx_sublist _ _).subset hc2)
theorem F0P {r:Row} (h:d0i r) {c:Change} (hc:vN c.v):d0i (a0N r c).1:=by
 unfold a0N
 split
 ·exact o0K h hc
 split
 ·exact s0Z h _ _
 split
 ·exact n0t h _
 split
 ·exact a0B
 dsimp only
 generalize (if (a0a r c.col).2 = true then (a0a r c.col).1 else ⟨2,none,9223372036854775808⟩:Value) = w
 by_cases hp:(W8 w c.v).2 = 0
 ·rw [if_pos hp]
  refine o0K h ?_
  unfold W8 at hp ⊢
  split
  ·intro _;exact y0J _ _
  ·rename_i h2;rw [if_neg h2] at hp;simp at hp
 ·rw [if_neg hp];exact a0B
theorem z0T:∀ {l:List Change} {r:Row},d0i r→(∀ c ∈ l,vN c.v)→d0i (a0G r l).1
 | [],r,h,_=>h
 | c::l,r,h,hl=>by
  simp only [a0G]
  split
  ·exact z0T (F0P h (hl c (by simp))) fun x hx=>hl x (by simp [hx])
  ·exact a0B
theorem y0H {r:Row} (h:d0i r) {l:List Change} (hl:∀ c ∈ l,vN c.v):d0i (apply r l).1:=by
 unfold apply
 split
 ·exact a0B
 cases l.find? fun c=>F9 c != 0 with
 | none=>exact z0T (W4 h) hl
 | some c=>exact a0B
theorem r0e {l:List Named} (h:n0a l) (n:BL):d0i (a0e l n).1:=by
 unfold a0e
 split
 ·refine W4 ?_
  cases hg:l[tix l n]? with
  | none=>exact a0B
  | some y=>exact h y (List.mem_of_getElem? hg)
 ·exact a0B
theorem B0K {l:List Named} (h:n0a l) {n:BL} {r:Row} (hr:d0i r):n0a (i0D l n r).1:=by
 unfold i0D
 split
 ·exact h
 split
 ·dsimp only
  split
  ·exact fun x hx=>h x ((List.eraseIdx_sublist _ _).subset hx)
  ·exact h
 split
 ·intro x hx
  rcases List.mem_or_eq_of_mem_set hx with hx | rfl
  ·exact h x hx
  ·exact W4 hr
 split
 ·exact h
 ·intro x hx
  rcases g0u (d0Z _ _) hx with rfl | hx
  ·exact W4 hr
  ·exact h x hx
theorem D0Y {l:List Named} (h:n0a l) {o:Op} (ho:opN o):n0a (f0w l o).1:=by
 unfold f0w
 dsimp only
 split
 ·exact h
 split
 ·exact B0K h (y0H (r0e h _) ho)
 ·exact h
theorem F0d {l:List Named} (h:n0a l) {sp:Span} {o:Op} (ho:opN o):n0a (opT sp l o).2∧∀ x ∈ ls (opT sp l o).1.rows,d0i x.r:=by
 unfold opT
 split
 ·refine ⟨h, ?_⟩
  split
  ·intro x hx;simp at hx;subst hx;exact r0e h _
  ·intro x hx;simp [noA] at hx
 split
 ·exact ⟨D0Y h ho,by intro x hx;simp [noA] at hx⟩
 ·refine ⟨h,fun x hx=>?_⟩
  simp only [b0G] at hx
  exact h x (range_mem.1 x hx)
theorem x0y:∀ m:Fin 20,FloatKind.nearest .f64 ((m.val:Int) - 9) < 2 ^ 64:=by decide +kernel
theorem l0X (n:Int) {x:Nat} (hx:x < 2 ^ 64):d0L n x < 2 ^ 64:=by
 unfold d0L
 simp only
 split
 ·omega
 split
 ·omega
 split
 ·omega
 split
 ·omega
 split
 ·omega
 split
 ·omega
 split
 ·have h1:=Int.emod_nonneg (m20 n) (show (20:Int) ≠ 0 by decide)
  have h2:=Int.emod_lt_of_pos (m20 n) (show (0:Int) < 20 by decide)
  have:=x0y ⟨(m20 n % 20).toNat,by omega⟩
  have e:(((m20 n % 20).toNat:Nat):Int) = m20 n % 20:=by omega
  simp only [e] at this
  exact this
 ·exact hx
theorem w0T {v:KV} (hx:v.x < 2 ^ 64):vN (c0o v):=by
 unfold c0o
 split
 ·intro e;simp at e
 ·intro _;exact l0X _ hx
theorem t0C {c:KC} (hx:c.v.x < 2 ^ 64):vN (a0r c).v:=by
 unfold a0r
 simp only
 split
 ·intro _;exact l0X _ hx
 split
 ·exact A0G
 split
 ·exact A0G
 split
 ·exact A0G
 ·exact w0T hx
theorem D0j {o:KO} (hl:∀ c ∈ ls o.l,c.v.x < 2 ^ 64):opN (kOp o):=by
 unfold kOp
 split
 ·intro c hc;simp at hc
 split
 ·intro c hc;simp at hc
 ·intro c hc
  simp only at hc
  split at hc
  ·simp at hc;subst hc;intro _;decide
  ·simp only [R9,u0N] at hc
   obtain ⟨x,hx1,rfl⟩:=List.mem_map.1 hc
   exact t0C (hl x (List.mem_of_mem_take hx1))
theorem y0L {l:List Tld} (ok:CchOk l) {x:Tld} (hx:x ∈ l):d0N l x.client = true∧∃ h:cix l x.client < l.length,l[cix l x.client] = x:=by
 obtain ⟨k,hk,rfl⟩:=List.getElem_of_mem hx
 have hlt:∀ i (hi:i < l.length),i < cix l l[k].client ↔ l[i].client < l[k].client:=fun i hi=>by
  rw [u0m ok.srt _ i hi]
  unfold j0o
  constructor
  ·intro h
   by_cases h1:l[i].client < l[k].client
   ·exact h1
   ·rw [if_neg h1] at h;split at h <;> omega
  ·intro h;rw [if_pos h];omega
 have hk2:cix l l[k].client = k:=by
  have h1:¬ k < cix l l[k].client:=fun h=>by have:=(hlt k hk).1 h;omega
  rcases Nat.lt_or_ge (cix l l[k].client) k with h2 | h2
  ·exfalso
   have h3:=(T6 b0I).1 ok.srt (cix l l[k].client) k h2 hk
   simp only [c0E,decide_eq_true_eq] at h3
   have:=(hlt (cix l l[k].client) (by omega)).2 h3
   omega
  ·omega
 refine ⟨?_,by rw [hk2];exact hk,by simp only [hk2]⟩
 unfold d0N
 rw [hk2,List.getElem?_eq_getElem hk];simp
theorem p0q {l:List Tld} (ok:CchOk l) {c s:Int} {b:Option BL} (hs:1 ≤ s) (hx:(⟨c,s,b⟩:Tld) ∈ l):a0C l c s = (b,2):=by
 obtain ⟨h1,h2,h3⟩:=y0L ok hx
 unfold a0C
 dsimp only
 rw [List.getElem?_eq_getElem h2,h3,Option.getD_some,if_neg (by simp;omega),if_pos ⟨h1,rfl⟩]
theorem v0Q {l:List Tld} {c s:Int} {b:Option BL} (hl:(a0C l c s).2 = 1) (hr:a0I c s b = true):(⟨c,s,b⟩:Tld) ∈ (a0d l c s b).1∧∀ x ∈ l,x.client ≠ c→x ∈ (a0d l c s b).1:=by
 unfold a0d
 rw [if_neg (by simp [hl,hr])]
 split
 ·rename_i hT
  obtain ⟨hi,hc⟩:=h0L hT
  refine ⟨List.mem_iff_getElem.2 ⟨cix l c,by simpa using hi,by simp⟩,fun x hx hxc=>?_⟩
  obtain ⟨k,hk,rfl⟩:=List.getElem_of_mem hx
  refine List.mem_iff_getElem.2 ⟨k,by simpa using hk, ?_⟩
  rw [List.getElem_set,if_neg]
  rintro rfl;exact hxc hc
 ·have hi:=k0Q l c
  rw [b0L hi]
  refine ⟨by simp,fun x hx _=>?_⟩
  rw [← List.take_append_drop (cix l c) l] at hx
  rcases List.mem_append.1 hx with h | h
  ·exact List.mem_append_left _ h
  ·exact List.mem_append_right _ (List.mem_cons_of_mem _ h)
end Wm
