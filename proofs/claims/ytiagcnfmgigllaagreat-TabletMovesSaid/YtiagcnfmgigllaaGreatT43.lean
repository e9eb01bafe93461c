/- A part of a proof over the abstract machine. No conditions. -/
import Derived.Test.YtiagcnfmgigllaaGreatWmStore2
import Derived.Laws.FloatBits
set_option linter.all false
namespace Go.Proofs.YtiagcnfmgigllaaGreat
open Go Go.Ab Wm NumPlain Go.Proofs.Tryz
set_option maxRecDepth 10000
set_option maxHeartbeats 4000000
theorem k0v (n:Nat) (h:H):W K 155 [.one (.flt n)] h = some (.ret (.one (.int .u64 n)) h):=by rw [m0g hp rfl rfl];rfl
theorem A0P (b:Nat):∃ n:Int,∀ h,W K 233 [.one (.flt b)] h = some (.ret (.one (.int .u64 n)) h):=by
 obtain ⟨c1,h1⟩:∃ c,l0g .u64 (b:Int) 9218868437227405312 = c:=⟨_,rfl⟩
 obtain ⟨c2,h2⟩:∃ c,l0g .u64 (b:Int) 4503599627370495 = c:=⟨_,rfl⟩
 by_cases e1:c1 = 9218868437227405312
 ·subst e1
  by_cases e2:c2 = 0
  ·subst e2
   refine ⟨b,fun h=>?_⟩
   have hown:A8 S.own 233 = false:=by kernel_rfl
   refine p7 hp (by simp [s7,c5]) (c6 rfl rfl (by kernel_rfl) func233 rfl (by simp [Tryz.f233]) ?_)
   simp only [Tryz.f233]
   refine c7 ?_;intro Q1 hQ1
   repeat' (first
    | (replace hQ1:=hQ1;simp [k0v,h1,h2,u6,u5,p9,c5,l5,hown])
    | refine hQ1 _ _ _ ?_)
  ·have e2b:(c2 == 0) = false:=by simp [e2]
   have e2c:(c2 != 0) = true:=by simp [e2]
   refine ⟨9221120237041090561,fun h=>?_⟩
   have hown:A8 S.own 233 = false:=by kernel_rfl
   refine p7 hp (by simp [s7,c5]) (c6 rfl rfl (by kernel_rfl) func233 rfl (by simp [Tryz.f233]) ?_)
   simp only [Tryz.f233]
   refine c7 ?_;intro Q2 hQ2
   repeat' (first
    | (replace hQ2:=hQ2;simp [k0v,h1,h2,e2c,u6,u5,p9,c5,l5,hown])
    | refine hQ2 _ _ _ ?_)
 ·have e1b:(c1 == 9218868437227405312) = false:=by simp [e1]
  refine ⟨b,fun h=>?_⟩
  have hown:A8 S.own 233 = false:=by kernel_rfl
  refine p7 hp (by simp [s7,c5]) (c6 rfl rfl (by kernel_rfl) func233 rfl (by simp [Tryz.f233]) ?_)
  simp only [Tryz.f233]
  refine c7 ?_;intro Q3 hQ3
  repeat' (first
   | (replace hQ3:=hQ3;simp [k0v,h1,e1b,u6,u5,p9,c5,l5,hown])
   | refine hQ3 _ _ _ ?_)
theorem z0C (b:Nat):∃ n:Int,∀ h,W K 202 [.one (.flt b)] h = some (.ret (.one (.int .u64 n)) h):=by
 obtain ⟨n,hb⟩:=A0P b
 by_cases e1:n = 9221120237041090561
 ·subst e1
  refine ⟨18446744073709551615,fun h=>?_⟩
  refine A9 hp rfl rfl rfl func202 rfl (by simp [Tryz.f202]) ?_
  simp only [Tryz.f202]
  refine c7 ?_;intro Q4 hQ4
  repeat' (first
   | (replace hQ4:=hQ4;simp [hb])
   | refine hQ4 _ _ _ ?_)
 ·have e1b:(n == 9221120237041090561) = false:=by simp [e1]
  have hs:a0b .shr .u64 n 63 = some (.int .u64 (n.fdiv (2 ^ min (63:Int).toNat IntKind.u64.bits))):=rfl
  obtain ⟨m,hm⟩:∃ m,n.fdiv (2 ^ min (63:Int).toNat IntKind.u64.bits) = m:=⟨_,rfl⟩
  rw [hm] at hs
  by_cases e2:m = 1
  ·subst e2
   refine ⟨u0Q .u64 n,fun h=>?_⟩
   refine A9 hp rfl rfl rfl func202 rfl (by simp [Tryz.f202]) ?_
   simp only [Tryz.f202]
   refine c7 ?_;intro Q5 hQ5
   repeat' (first
    | (replace hQ5:=hQ5;simp [hb,e1b,hs])
    | refine hQ5 _ _ _ ?_)
  ·have e2b:(m == 1) = false:=by simp [e2]
   refine ⟨orI .u64 n 9223372036854775808,fun h=>?_⟩
   refine A9 hp rfl rfl rfl func202 rfl (by simp [Tryz.f202]) ?_
   simp only [Tryz.f202]
   refine c7 ?_;intro Q6 hQ6
   repeat' (first
    | (replace hQ6:=hQ6;simp [hb,e1b,hs,e2b])
    | refine hQ6 _ _ _ ?_)
theorem A0O (b:Nat) (h:H):W K 157 [.one (.flt b),.one (.flt b)] h = some (.ret (.one (ii 0)) h):=by
 obtain ⟨n,hb⟩:=z0C b
 have hown:A8 S.own 157 = false:=by kernel_rfl
 refine p7 hp (by simp [s7,c5]) (c6 rfl rfl (by kernel_rfl) func157 rfl (by simp [Tryz.f157]) ?_)
 simp only [Tryz.f157]
 refine c7 ?_;intro Q7 hQ7
 repeat' (first
  | (replace hQ7:=hQ7;simp [hb,u6,u5,p9,c5,l5,hown])
  | refine hQ7 _ _ _ ?_)
def m0r (k:Int):Int:=if k = 1 ∨ k = 2 then k else 0
theorem s0j (B7:Int) (v_b:Option BL) (v_n:Nat) (h:H):W K 156 [.agg [ii B7,bs v_b,.flt v_n]] h = some (.ret (.one (ii (m0r B7))) (h.new ⟨0,[3],true,[ii B7,bs v_b,.flt v_n]⟩)):=by
 unfold m0r
 by_cases h1:B7 = 1
 ·subst h1
  refine A9 hp rfl rfl rfl func156 rfl (by simp [Tryz.f156]) ?_
  simp only [Tryz.f156]
  refine c7 ?_;intro Q8 hQ8
  repeat' (first
   | (replace hQ8:=hQ8;simp)
   | refine hQ8 _ _ _ ?_)
 ·have h1b:(B7 == 1) = false:=by simp [h1]
  by_cases h2:B7 = 2
  ·subst h2
   refine A9 hp rfl rfl rfl func156 rfl (by simp [Tryz.f156]) ?_
   simp only [Tryz.f156]
   refine c7 ?_;intro Q9 hQ9
   repeat' (first
    | (replace hQ9:=hQ9;simp)
    | refine hQ9 _ _ _ ?_)
  ·have h2b:(B7 == 2) = false:=by simp [h2]
   rw [if_neg (by simp [h1,h2])]
   refine A9 hp rfl rfl rfl func156 rfl (by simp [Tryz.f156]) ?_
   simp only [Tryz.f156]
   refine c7 ?_;intro Q10 hQ10
   repeat' (first
    | (replace hQ10:=hQ10;simp [h1b,h2b])
    | refine hQ10 _ _ _ ?_)
structure EqV (v w:Wm.Value):Prop where
 k:w.kind = v.kind
 b:v.kind = 1→ls w.b = ls v.b
 n:v.kind = 2→w.n = v.n
theorem v0o {v w:Wm.Value} (e:EqV v w) (h:H):W K 67 [.agg (V3 v),.agg (V3 w)] h = some (.ret (.one (.bool true)) h):=by
 obtain ⟨B7,v_b,v_n⟩:=v
 obtain ⟨w_kind,w_b,w_n⟩:=w
 obtain ⟨e1,e2,e3⟩:=e
 simp only at e1 e2 e3
 subst e1
 simp only [V3]
 have hk1:=s0j w_kind v_b v_n
 have hk2:=s0j w_kind w_b w_n
 have ho:∀ h,W K 110 [.agg [ii w_kind,bs v_b,.flt v_n],.agg [ii w_kind,bs w_b,.flt w_n]] h = some (.ret (.one (ii 0)) h):=by
  intro h
  by_cases h1:w_kind = 1
  ·have hb:=e2 h1
   subst h1
   have hk:m0r 1 = 1:=rfl
   rw [hk] at hk1 hk2
   have hi:Op.bytesLess (ls v_b) (ls v_b) = false:=X9 _
   have hown:A8 S.own 110 = false:=by kernel_rfl
   refine p7 hp (by simp [s7,c5,l0]) (c6 rfl rfl (by kernel_rfl) func110 rfl (by simp [Tryz.f110]) ?_)
   simp only [Tryz.f110]
   refine c7 ?_;intro Q11 hQ11
   repeat' (first
    | (replace hQ11:=hQ11;simp [hk1,hk2,c0A,J7,hb,hi,u6,u5,p9,c5,l5,hown])
    | refine hQ11 _ _ _ ?_
    | refine dF (id:=1) [0,1,2,3,4,5] [(1,2)] ?_)
  ·by_cases h2:w_kind = 2
   ·have hn:=e3 h2
    subst h2
    subst hn
    have hk:m0r 2 = 2:=rfl
    rw [hk] at hk1 hk2
    have hr:=A0O w_n
    have hown:A8 S.own 110 = false:=by kernel_rfl
    refine p7 hp (by simp [s7,c5,l0]) (c6 rfl rfl (by kernel_rfl) func110 rfl (by simp [Tryz.f110]) ?_)
    simp only [Tryz.f110]
    refine c7 ?_;intro Q12 hQ12
    repeat' (first
     | (replace hQ12:=hQ12;simp [hk1,hk2,hr,u6,u5,p9,c5,l5,hown])
     | refine hQ12 _ _ _ ?_
     | refine dF (id:=1) [0,1,2,3,4,5] [(1,2)] ?_)
   ·have hk:m0r w_kind = 0:=by simp [m0r,h1,h2]
    rw [hk] at hk1 hk2
    have hown:A8 S.own 110 = false:=by kernel_rfl
    refine p7 hp (by simp [s7,c5,l0]) (c6 rfl rfl (by kernel_rfl) func110 rfl (by simp [Tryz.f110]) ?_)
    simp only [Tryz.f110]
    refine c7 ?_;intro Q13 hQ13
    repeat' (first
     | (replace hQ13:=hQ13;simp [hk1,hk2,u6,u5,p9,c5,l5,hown])
     | refine hQ13 _ _ _ ?_
     | refine dF (id:=1) [0,1,2,3,4,5] [(1,2)] ?_)
 have hown:A8 S.own 67 = false:=by kernel_rfl
 refine p7 hp (by simp [s7,c5,l0]) (c6 rfl rfl (by kernel_rfl) func67 rfl (by simp [Tryz.f67]) ?_)
 simp only [Tryz.f67]
 refine c7 ?_;intro Q14 hQ14
 repeat' (first
  | (replace hQ14:=hQ14;simp [ho,u6,u5,p9,c5,l5,hown])
  | refine hQ14 _ _ _ ?_)
structure EqX (v w:Version):Prop where
 t:w.time = v.time
 v:EqV v.v w.v
theorem q0Z {α β:Type} {o o':Row} {L:List α} (e f:α→Column) (V:α→List β) (d g:β→Version) (ho1:ls o = L.map e) (ho:ls o' = L.map f) (hf:∀ c ∈ L,(f c).name = (e c).name∧ls (e c).l = (V c).map d∧ls (f c).l = (V c).map g∧(V c).length < 1000000∧∀ x ∈ V c,EqX (d x) (g x)) (hl:L.length < 1000000) (h:H) :
  W K 36 [.agg (D6 o),.agg (D6 o')] h = some (.ret (.one (.bool true)) h):=by
 simp only [D6]
 have hl1:∀ (u:TypeId) (h':H),O7 (sl 2 j9 o) (some (.slice u)) h' = some (one (ii L.length) h'):=fun u h'=>by rw [O8,ho1,oqi]
 have hl2:∀ (u:TypeId) (h':H),O7 (sl 2 j9 o') (some (.slice u)) h' = some (one (ii L.length) h'):=fun u h'=>by rw [O8,ho,oqi]
 obtain ⟨Z1,hZ1⟩:∃ Z,sl 2 j9 o = Z:=⟨_,rfl⟩
 obtain ⟨Z2,hZ2⟩:∃ Z,sl 2 j9 o' = Z:=⟨_,rfl⟩
 rw [hZ1] at hl1 ⊢
 rw [hZ2] at hl2 ⊢
 have hp1:c5 false Z1 = true:=by rw [← hZ1];exact h0e _
 have hp2:c5 false Z2 = true:=by rw [← hZ2];exact h0e _
 have hown:A8 S.own 36 = false:=by kernel_rfl
 refine p7 hp (by simp [s7,hp1,hp2,l0]) (c6 rfl rfl (by kernel_rfl) func36 rfl (by simp [Tryz.f36]) ?_)
 simp only [Tryz.f36]
 refine c7 ?_;intro Q15 hQ15
 repeat' (first
  | (replace hQ15:=hQ15;simp [hl1,hl2])
  | refine hQ15 _ _ _ ?_
  | (first | refine dF (id:=6) [0,1,2,3,4,5,6,7,8,9,10,11,12,13,14,15,16,17,18,19,20,21,22,23,24,25,26,27,28,29] [] ?_ | refine dF (id:=11) [0,1,2,3,4,5,6,7,8,9,10,11,12,13,14,15,16,17,18,19,20,21,22,23,24,25,26,27,28,29,30,31,32,33,34,35,36,37,38,39,40,41,42,43,44] [] ?_))
 refine D5 hp L (fun a r fr hh=>(2 ≤ hh.next∧hh.f 0 = some ⟨0,[1],true,[Z1]⟩∧hh.f 1 = some ⟨0,[1],true,[Z2]⟩)∧∃ j:Nat→AV,fr = (j 0::j 1::(.one (.ptr 0 0 0))::(.one (.ptr 1 0 0))::j 4::(.one (ii a.length))::j 6::j 7::j 8::j 9::j 10::j 11::j 12::j 13::j 14::j 15::j 16::j 17::j 18::j 19::j 20::j 21::j 22::j 23::j 24::j 25::j 26::j 27::j 28::j 29::j 30::j 31::j 32::j 33::j 34::j 35::j 36::j 37::j 38::j 39::j 40::j 41::j 42::j 43::j 44::j 45::j 46::j 47::j 48::j 49::j 50::j 51::j 52::j 53::j 54::j 55::j 56::j 57::j 58::j 59::j 60::j 61::j 62::j 63::j 64::j 65::j 66::j 67::j 68::j 69::j 70::j 71::j 72::j 73::j 74::j 75::j 76::j 77::j 78::j 79::j 80::j 81::j 82::j 83::j 84::j 85::j 86::j 87::j 88::j 89::j 90::j 91::j 92::j 93::j 94::j 95::j 96::j 97::j 98::j 99::j 100::j 101::j 102::j 103::j 104::j 105::j 106::[])) ?_ ?_ _ _ ⟨⟨by simp,by simp,by simp⟩,s9 (by simp)⟩
 ·rintro a x r fr hh hll ⟨⟨i0,i1,i2⟩,j,rfl⟩
  have hil:a.length < L.length:=by rw [hll];simp
  obtain ⟨x1,x0,x2,x3,x4⟩:=hf x (by rw [hll];simp)
  have ho3:ls o = a.map e++e x::r.map e:=by rw [ho1,hll];simp
  have hso:some (ls o) = o:=by rw [ho3];exact (O9 ho3).symm
  have ho2:ls o' = a.map f++f x::r.map f:=by rw [ho,hll];simp
  have hso':some (ls o') = o':=by rw [ho2];exact (O9 ho2).symm
  have hix1:=I4 (P:=prog) (enc:=j9) (s:=2) (l:=ls o) (i:=a.length) underlying79 (by simp) (by omega) (by rw [ho1,oqi];exact hil)
  rw [hso,hZ1] at hix1
  have hix2:=I4 (P:=prog) (enc:=j9) (s:=2) (l:=ls o') (i:=a.length) underlying79 (by simp) (by omega) (by rw [ho,oqi];exact hil)
  rw [hso',hZ2] at hix2
  have r10:=F3 (enc:=j9) (s:=2) N6 (a.map e) (e x) (r.map e) (o:=0) (n:=1) (by omega)
  have r11:=F3 (enc:=j9) (s:=2) N6 (a.map e) (e x) (r.map e) (o:=1) (n:=1) (by omega)
  have r20:=F3 (enc:=j9) (s:=2) N6 (a.map f) (f x) (r.map f) (o:=0) (n:=1) (by omega)
  have r21:=F3 (enc:=j9) (s:=2) N6 (a.map f) (f x) (r.map f) (o:=1) (n:=1) (by omega)
  rw [← ho3,oqi] at r10 r11
  rw [← ho2,oqi] at r20 r21
  simp only [Nat.add_zero] at r10 r20
  obtain ⟨⟨xn,xl⟩,hx⟩:∃ y,e x = y:=⟨_,rfl⟩
  obtain ⟨⟨yn,yl⟩,hy⟩:∃ y,f x = y:=⟨_,rfl⟩
  rw [hx] at r10 r11 x1 x0
  rw [hy] at r20 r21 x1 x2
  simp only at x1 x0 x2
  subst x1
  obtain ⟨VX,hVX⟩:∃ v,V x = v:=⟨_,rfl⟩
  rw [hVX] at x0 x2 x3 x4
  replace r10:sub (cat j9 (ls o)) (a.length * 2) 1 = some [.str yn]:=r10
  replace r11:sub (cat j9 (ls o)) (a.length * 2 + 1) 1 = some [sl 4 c9 xl]:=r11
  replace r20:sub (cat j9 (ls o')) (a.length * 2) 1 = some [.str yn]:=r20
  replace r21:sub (cat j9 (ls o')) (a.length * 2 + 1) 1 = some [sl 4 c9 yl]:=r21
  have hw:IntKind.i64.wrap ((a.length:Int) + 1) = ((a++[x]).length:Int):=by rw [J9];exact D3 (by omega)
  have hlx:∀ (u:TypeId) (h':H),O7 (sl 4 c9 xl) (some (.slice u)) h' = some (one (ii VX.length) h'):=fun u h'=>by rw [O8,x0,oqi]
  have hly:∀ (u:TypeId) (h':H),O7 (sl 4 c9 yl) (some (.slice u)) h' = some (one (ii VX.length) h'):=fun u h'=>by rw [O8,x2,oqi]
  obtain ⟨V1,hV1⟩:∃ Z,sl 4 c9 xl = Z:=⟨_,rfl⟩
  obtain ⟨V2,hV2⟩:∃ Z,sl 4 c9 yl = Z:=⟨_,rfl⟩
  rw [hV1] at hlx r11
  rw [hV2] at hly r21
  generalize hA2:a++[x] = A2 at *
  generalize hC1:cat j9 (ls o) = C1 at *
  generalize hC2:cat j9 (ls o') = C2 at *
  first | (refine c7 ?_;intro Q16 hQ16) | have hQ16:=oqk
  repeat' (first
   | (replace hQ16:=hQ16;simp [J7,hl1,i1,i2,hix1,hix2,r10,r11,r20,r21,hlx,hly,hil])
   | (refine hQ16 _ _ _ ?_;clear hQ16 Q16;first | simp only [] | simp [J7,hl1,hl2,i1,i2,hix1,hix2,r10,r11,r20,r21,hlx,hly,hil,u6,u5,p9,s8,H8,c5,l0,l5,hown] | skip)
   | (refine C5 (by assumption) ?_;(try clear hQ16);first | simp only [] | simp [J7,hl1,hl2,i1,i2,hix1,hix2,r10,r11,r20,r21,hlx,hly,hil,u6,u5,p9,s8,H8,c5,l0,l5,hown] | skip)
   | ((fail_if_success replace hQ16:=hQ16);(first | refine c7 ?_ | refine y5 ?_ | refine y3 ?_);intro Q16 hQ16)
   | (first | refine dF (id:=6) [0,1,2,3,4,5,6,7,8,9,10,11,12,13,14,15,16,17,18,19,20,21,22,23,24,25,26,27,28,29] [] ?_ | refine dF (id:=11) [0,1,2,3,4,5,6,7,8,9,10,11,12,13,14,15,16,17,18,19,20,21,22,23,24,25,26,27,28,29,30,31,32,33,34,35,36,37,38,39,40,41,42,43,44] [] ?_))
  refine D5 hp VX (fun b q fr h2=>(h2 = hh)∧∃ j:Nat→AV,fr = (j 0::j 1::(.one (.ptr 0 0 0))::(.one (.ptr 1 0 0))::j 4::(.one (ii a.length))::(.one (ii b.length))::j 7::j 8::j 9::j 10::j 11::j 12::j 13::j 14::j 15::j 16::j 17::j 18::j 19::j 20::j 21::j 22::j 23::j 24::j 25::j 26::j 27::j 28::j 29::j 30::j 31::j 32::j 33::j 34::j 35::j 36::j 37::j 38::j 39::j 40::j 41::j 42::j 43::j 44::j 45::j 46::j 47::j 48::j 49::j 50::j 51::j 52::j 53::j 54::j 55::j 56::j 57::j 58::j 59::j 60::j 61::j 62::j 63::j 64::j 65::j 66::j 67::j 68::j 69::j 70::j 71::j 72::j 73::j 74::j 75::j 76::j 77::j 78::j 79::j 80::j 81::j 82::j 83::j 84::j 85::j 86::j 87::j 88::j 89::j 90::j 91::j 92::j 93::j 94::j 95::j 96::j 97::j 98::j 99::j 100::j 101::j 102::j 103::j 104::j 105::j 106::[])) ?_ ?_ _ _ ?_
  rotate_left 2
  ·exact ⟨rfl,s9 (by simp)⟩
  ·rintro b y q fr h2 hl2' ⟨rfl,j',rfl⟩
   have hil2:b.length < VX.length:=by rw [hl2'];simp
   have y4:=x4 y (by rw [hl2'];simp)
   have hxl:ls xl = b.map d++d y::q.map d:=by rw [x0,hl2'];simp
   have hsx:some (ls xl) = xl:=by rw [hxl];exact (O9 hxl).symm
   have hyl:ls yl = b.map g++g y::q.map g:=by rw [x2,hl2'];simp
   have hsy:some (ls yl) = yl:=by rw [hyl];exact (O9 hyl).symm
   have jx1:=I4 (P:=prog) (enc:=c9) (s:=4) (l:=ls xl) (i:=b.length) underlying89 (by simp) (by omega) (by rw [x0,oqi];exact hil2)
   rw [hsx,hV1] at jx1
   have jx2:=I4 (P:=prog) (enc:=c9) (s:=4) (l:=ls yl) (i:=b.length) underlying89 (by simp) (by omega) (by rw [x2,oqi];exact hil2)
   rw [hsy,hV2] at jx2
   have v10:=F3 (enc:=c9) (s:=4) C3 (b.map d) (d y) (q.map d) (o:=0) (n:=1) (by omega)
   have v11:=F3 (enc:=c9) (s:=4) C3 (b.map d) (d y) (q.map d) (o:=1) (n:=3) (by omega)
   have v20:=F3 (enc:=c9) (s:=4) C3 (b.map g) (g y) (q.map g) (o:=0) (n:=1) (by omega)
   have v21:=F3 (enc:=c9) (s:=4) C3 (b.map g) (g y) (q.map g) (o:=1) (n:=3) (by omega)
   rw [← hxl,oqi] at v10 v11
   rw [← hyl,oqi] at v20 v21
   simp only [Nat.add_zero] at v10 v20
   have ht:=y4.t
   have hS:=v0o y4.v
   obtain ⟨⟨yt,yv⟩,hyd⟩:∃ z,d y = z:=⟨_,rfl⟩
   obtain ⟨⟨zt,zv⟩,hz⟩:∃ z,g y = z:=⟨_,rfl⟩
   rw [hyd] at v10 v11 ht hS
   rw [hz] at v20 v21 ht hS
   simp only at ht
   subst ht
   replace v10:sub (cat c9 (ls xl)) (b.length * 4) 1 = some [ii zt]:=v10
   replace v11:sub (cat c9 (ls xl)) (b.length * 4 + 1) 3 = some (V3 yv):=v11
   replace v20:sub (cat c9 (ls yl)) (b.length * 4) 1 = some [ii zt]:=v20
   replace v21:sub (cat c9 (ls yl)) (b.length * 4 + 1) 3 = some (V3 zv):=v21
   simp only at hS
   have hw2:IntKind.i64.wrap ((b.length:Int) + 1) = ((b++[y]).length:Int):=by rw [J9];exact D3 (by omega)
   generalize hB2:b++[y] = B2 at *
   generalize hD1:cat c9 (ls xl) = D1 at *
   generalize hD2:cat c9 (ls yl) = D2 at *
   first | (refine c7 ?_;intro Q17 hQ17) | have hQ17:=oqk
   repeat' (first
    | (replace hQ17:=hQ17;simp [i1,i2,hix1,hix2,r11,r21,hlx,hil2,jx1,jx2,v10,v11,v20,v21,hS,hw2])
    | (refine hQ17 _ _ _ ?_;clear hQ17 Q17;first | simp only [] | simp [hl1,hl2,i1,i2,hix1,hix2,r10,r11,r20,r21,hlx,hly,hil2,jx1,jx2,v10,v11,v20,v21,hS,hw2,u6,u5,p9,s8,H8,c5,l0,l5,hown] | skip)
    | (refine C5 (by assumption) ?_;(try clear hQ17);first | simp only [] | simp [hl1,hl2,i1,i2,hix1,hix2,r10,r11,r20,r21,hlx,hly,hil2,jx1,jx2,v10,v11,v20,v21,hS,hw2,u6,u5,p9,s8,H8,c5,l0,l5,hown] | skip)
    | ((fail_if_success replace hQ17:=hQ17);(first | refine c7 ?_ | refine y5 ?_ | refine y3 ?_);intro Q17 hQ17)
    | (first | refine dF (id:=6) [0,1,2,3,4,5,6,7,8,9,10,11,12,13,14,15,16,17,18,19,20,21,22,23,24,25,26,27,28,29] [] ?_ | refine dF (id:=11) [0,1,2,3,4,5,6,7,8,9,10,11,12,13,14,15,16,17,18,19,20,21,22,23,24,25,26,27,28,29,30,31,32,33,34,35,36,37,38,39,40,41,42,43,44] [] ?_))
   exact ⟨trivial,s9 (by simp)⟩
  ·rintro fr h2 ⟨rfl,j',rfl⟩
   first | (refine c7 ?_;intro Q18 hQ18) | have hQ18:=oqk
   repeat' (first
    | (replace hQ18:=hQ18;simp [i1,hix1,r11,hlx,hw])
    | (refine hQ18 _ _ _ ?_;clear hQ18 Q18;first | simp only [] | simp [i1,i2,hix1,r11,hlx,hw,u6,u5,p9,s8,H8,c5,l0,l5,hown] | skip)
    | (refine C5 (by assumption) ?_;(try clear hQ18);first | simp only [] | simp [i1,i2,hix1,r11,hlx,hw,u6,u5,p9,s8,H8,c5,l0,l5,hown] | skip)
    | ((fail_if_success replace hQ18:=hQ18);(first | refine c7 ?_ | refine y5 ?_ | refine y3 ?_);intro Q18 hQ18)
    | (first | refine dF (id:=6) [0,1,2,3,4,5,6,7,8,9,10,11,12,13,14,15,16,17,18,19,20,21,22,23,24,25,26,27,28,29] [] ?_ | refine dF (id:=11) [0,1,2,3,4,5,6,7,8,9,10,11,12,13,14,15,16,17,18,19,20,21,22,23,24,25,26,27,28,29,30,31,32,33,34,35,36,37,38,39,40,41,42,43,44] [] ?_))
   exact ⟨⟨i0,i1,i2⟩,s9 (by simp)⟩
 ·rintro fr hh ⟨⟨i0,i1,i2⟩,j,rfl⟩
  first | (refine c7 ?_;intro Q19 hQ19) | have hQ19:=oqk
  repeat' (first
   | (replace hQ19:=hQ19;simp [hl1,i1])
   | (refine hQ19 _ _ _ ?_;clear hQ19 Q19;first | simp only [] | simp [hl1,i1,u6,u5,p9,s8,H8,c5,l0,l5,hown] | skip)
   | (refine C5 (by assumption) ?_;(try clear hQ19);first | simp only [] | simp [u6,u5,p9,c5,l5,hown] | skip)
   | ((fail_if_success replace hQ19:=hQ19);(first | refine c7 ?_ | refine y5 ?_ | refine y3 ?_);intro Q19 hQ19)
   | (first | refine dF (id:=6) [0,1,2,3,4,5,6,7,8,9,10,11,12,13,14,15,16,17,18,19,20,21,22,23,24,25,26,27,28,29] [] ?_ | refine dF (id:=11) [0,1,2,3,4,5,6,7,8,9,10,11,12,13,14,15,16,17,18,19,20,21,22,23,24,25,26,27,28,29,30,31,32,33,34,35,36,37,38,39,40,41,42,43,44] [] ?_))
structure EqN (x y:Named):Prop where
 n:y.name = x.name
 r:∀ h,W K 36 [.agg (D6 x.r),.agg (D6 y.r)] h = some (.ret (.one (.bool true)) h)
theorem s0h (a b c d:BL):bin prog K.cmp .neq 43 (.agg [.str a,.str b]) (.agg [.str c,.str d]) = some (.bool (!(decide (a = c) && decide (b = d)))):=by
 have hc:K.cmp 43 = some [.str [],.str []]:=by kernel_rfl
 simp [bin,hc,O1,eqL,eqS]
 rw [Bool.eq_iff_iff];simp
theorem t0v {α:Type} {o o':Option (List Named)} {L:List α} (E F:α→Named) (ho1:ls o = L.map E) (ho:ls o' = L.map F) (hF:∀ x ∈ L,EqN (E x) (F x)) (hl:L.length < 1000000) (h:H) :
  W K 13 [.one (sl 2 c8 o),.one (sl 2 c8 o')] h = some (.ret (.one (.bool true)) h):=by
 have hl1:∀ (u:TypeId) (h':H),O7 (sl 2 c8 o) (some (.slice u)) h' = some (one (ii L.length) h'):=fun u h'=>by rw [O8,ho1,oqi]
 have hl2:∀ (u:TypeId) (h':H),O7 (sl 2 c8 o') (some (.slice u)) h' = some (one (ii L.length) h'):=fun u h'=>by rw [O8,ho,oqi]
 obtain ⟨Z1,hZ1⟩:∃ Z,sl 2 c8 o = Z:=⟨_,rfl⟩
 obtain ⟨Z2,hZ2⟩:∃ Z,sl 2 c8 o' = Z:=⟨_,rfl⟩
 rw [hZ1] at hl1 ⊢
 rw [hZ2] at hl2 ⊢
 have hp1:c5 false Z1 = true:=by rw [← hZ1];exact a0f _
 have hp2:c5 false Z2 = true:=by rw [← hZ2];exact a0f _
 have hown:A8 S.own 13 = false:=by kernel_rfl
 refine p7 hp (by simp [s7,hp1,hp2]) (c6 rfl rfl (by kernel_rfl) func13 rfl (by simp [Tryz.f13]) ?_)
 simp only [Tryz.f13]
 refine c7 ?_;intro Q2 hQ2
 repeat' (first
  | (replace hQ2:=hQ2;simp [hl1,hl2])
  | refine hQ2 _ _ _ ?_
  | refine dF (id:=6) [0,1,2,3,4,5,6,7,8,9,10,11,12,13,14,15,16,17,18,19,20,21,22,23,24] [] ?_)
 refine D5 hp L (fun a r fr hh=>True∧∃ j:Nat→AV,fr = ((.one Z1)::(.one Z2)::j 2::j 3::j 4::(.one (ii a.length))::j 6::j 7::j 8::j 9::j 10::j 11::j 12::j 13::j 14::j 15::j 16::j 17::j 18::j 19::j 20::j 21::j 22::j 23::j 24::j 25::j 26::j 27::j 28::j 29::j 30::j 31::j 32::j 33::j 34::j 35::j 36::j 37::j 38::j 39::j 40::j 41::[])) ?_ ?_ _ _ ⟨trivial,s9 (by simp)⟩
 ·rintro a x r fr hh hll ⟨_,j,rfl⟩
  have hil:a.length < L.length:=by rw [hll];simp
  obtain ⟨x1,x2⟩:=hF x (by rw [hll];simp)
  have ho3:ls o = a.map E++E x::r.map E:=by rw [ho1,hll];simp
  have hso:some (ls o) = o:=by rw [ho3];exact (O9 ho3).symm
  have ho2:ls o' = a.map F++F x::r.map F:=by rw [ho,hll];simp
  have hso':some (ls o') = o':=by rw [ho2];exact (O9 ho2).symm
  have hix1:=I4 (P:=prog) (enc:=c8) (s:=2) (l:=ls o) (i:=a.length) underlying48 (by simp) (by omega) (by rw [ho1,oqi];exact hil)
  rw [hso,hZ1] at hix1
  have hix2:=I4 (P:=prog) (enc:=c8) (s:=2) (l:=ls o') (i:=a.length) underlying48 (by simp) (by omega) (by rw [ho,oqi];exact hil)
  rw [hso',hZ2] at hix2
  have r10:=F3 (enc:=c8) (s:=2) z9 (a.map E) (E x) (r.map E) (o:=0) (n:=1) (by omega)
  have r11:=F3 (enc:=c8) (s:=2) z9 (a.map E) (E x) (r.map E) (o:=1) (n:=1) (by omega)
  have r20:=F3 (enc:=c8) (s:=2) z9 (a.map F) (F x) (r.map F) (o:=0) (n:=1) (by omega)
  have r21:=F3 (enc:=c8) (s:=2) z9 (a.map F) (F x) (r.map F) (o:=1) (n:=1) (by omega)
  rw [← ho3,oqi] at r10 r11
  rw [← ho2,oqi] at r20 r21
  simp only [Nat.add_zero] at r10 r20
  obtain ⟨⟨xn,xr⟩,hx⟩:∃ y,E x = y:=⟨_,rfl⟩
  obtain ⟨⟨yn,yr⟩,hy⟩:∃ y,F x = y:=⟨_,rfl⟩
  rw [hx] at r10 r11 x1 x2
  rw [hy] at r20 r21 x1 x2
  simp only at x1 x2
  subst x1
  replace r10:sub (cat c8 (ls o)) (a.length * 2) 1 = some [.str yn]:=r10
  replace r11:sub (cat c8 (ls o)) (a.length * 2 + 1) 1 = some (D6 xr):=r11
  replace r20:sub (cat c8 (ls o')) (a.length * 2) 1 = some [.str yn]:=r20
  replace r21:sub (cat c8 (ls o')) (a.length * 2 + 1) 1 = some (D6 yr):=r21
  have hw:IntKind.i64.wrap ((a.length:Int) + 1) = ((a++[x]).length:Int):=by rw [J9];exact D3 (by omega)
  generalize hA2:a++[x] = A2 at *
  generalize hC1:cat c8 (ls o) = C1 at *
  generalize hC2:cat c8 (ls o') = C2 at *
  generalize D6 xr = X1 at *
  generalize D6 yr = X2 at *
  first | (refine c7 ?_;intro Q3 hQ3) | have hQ3:=oqk
  repeat' (first
   | (replace hQ3:=hQ3;simp [J7,hl1,hix1,hix2,r10,r11,r20,r21,hil,x2,hw])
   | (refine hQ3 _ _ _ ?_;clear hQ3 Q3;first | simp only [] | simp [J7,hl1,hl2,hix1,hix2,r10,r11,r20,r21,hil,x2,hw,u6,u5,p9,s8,H8,c5,l0,l5,hown] | skip)
   | (refine C5 (by assumption) ?_;(try clear hQ3);first | simp only [] | simp [J7,hl1,hl2,hix1,hix2,r10,r11,r20,r21,hil,x2,hw,u6,u5,p9,s8,H8,c5,l0,l5,hown] | skip)
   | ((fail_if_success replace hQ3:=hQ3);(first | refine c7 ?_ | refine y5 ?_ | refine y3 ?_);intro Q3 hQ3)
   | refine dF (id:=6) [0,1,2,3,4,5,6,7,8,9,10,11,12,13,14,15,16,17,18,19,20,21,22,23,24] [] ?_)
  exact ⟨trivial,s9 (by simp)⟩
 ·rintro fr hh ⟨_,j,rfl⟩
  first | (refine c7 ?_;intro Q4 hQ4) | have hQ4:=oqk
  repeat' (first
   | (replace hQ4:=hQ4;simp [hl1])
   | (refine hQ4 _ _ _ ?_;clear hQ4 Q4;first | simp only [] | simp [hl1,u6,u5,p9,s8,H8,c5,l0,l5,hown] | skip)
   | (refine C5 (by assumption) ?_;(try clear hQ4);first | simp only [] | simp [u6,u5,p9,c5,l5,hown] | skip)
   | ((fail_if_success replace hQ4:=hQ4);(first | refine c7 ?_ | refine y5 ?_ | refine y3 ?_);intro Q4 hQ4)
   | refine dF (id:=6) [0,1,2,3,4,5,6,7,8,9,10,11,12,13,14,15,16,17,18,19,20,21,22,23,24] [] ?_)
theorem q0M {α:Type} (code:Int) (o o':Option (List Named)) {L:List α} (E F:α→Named) (ho1:ls o = L.map E) (ho:ls o' = L.map F) (hF:∀ x ∈ L,EqN (E x) (F x)) (hl:L.length < 1000000) (lo hi:BL) (group gen old to do_:Int) (at_:BL) (st st':Option BL) (hs:ls st = ls st') (h:H) :
  W K 11 [.agg [ii code,sl 2 c8 o,.str lo,.str hi,ii group,ii gen,ii old,ii to,ii do_,.str at_,bs st],.agg [ii code,sl 2 c8 o',.str lo,.str hi,ii group,ii gen,ii old,ii to,ii do_,.str at_,bs st']] h = some (.ret (.one (.bool true)) h):=by
 have hc:=s0h lo hi lo hi
 simp only [decide_true,Bool.and_self,Bool.not_true] at hc
 have hl1:∀ (u:TypeId) (h':H),O7 (sl 2 c8 o) (some (.slice u)) h' = some (one (ii L.length) h'):=fun u h'=>by rw [O8,ho1,oqi]
 have hl2:∀ (u:TypeId) (h':H),O7 (sl 2 c8 o') (some (.slice u)) h' = some (one (ii L.length) h'):=fun u h'=>by rw [O8,ho,oqi]
 obtain ⟨Z1,hZ1⟩:∃ Z,sl 2 c8 o = Z:=⟨_,rfl⟩
 obtain ⟨Z2,hZ2⟩:∃ Z,sl 2 c8 o' = Z:=⟨_,rfl⟩
 rw [hZ1] at hl1 ⊢
 rw [hZ2] at hl2 ⊢
 have hp1:c5 false Z1 = true:=by rw [← hZ1];exact a0f _
 have hp2:c5 false Z2 = true:=by rw [← hZ2];exact a0f _
 have hown:A8 S.own 11 = false:=by kernel_rfl
 refine p7 hp (by simp [s7,hp1,hp2,c5,l0]) (c6 rfl rfl (by kernel_rfl) func11 rfl (by simp [Tryz.f11]) ?_)
 simp only [Tryz.f11]
 refine c7 ?_;intro Q5 hQ5
 repeat' (first
  | (replace hQ5:=hQ5;simp [hl1,hl2,c0A,J7,hs,hc])
  | refine hQ5 _ _ _ ?_
  | refine dF (id:=6) [0,1,2,3,4,5,6,7,8,9,10,11,12,13,14,15,16,17,18,19,20,21,22,23,24,25,26,27,28] [] ?_)
 refine D5 hp L (fun a r fr hh=>(2 ≤ hh.next∧hh.f 0 = some ⟨0,[11],true,[ii code,Z1,.str lo,.str hi,ii group,ii gen,ii old,ii to,ii do_,.str at_,bs st]⟩∧hh.f 1 = some ⟨0,[11],true,[ii code,Z2,.str lo,.str hi,ii group,ii gen,ii old,ii to,ii do_,.str at_,bs st']⟩)∧∃ j:Nat→AV,fr = (j 0::j 1::(.one (.ptr 0 0 0))::(.one (.ptr 1 0 0))::j 4::(.one (ii a.length))::j 6::j 7::j 8::j 9::j 10::j 11::j 12::j 13::j 14::j 15::j 16::j 17::j 18::j 19::j 20::j 21::j 22::j 23::j 24::j 25::j 26::j 27::j 28::j 29::j 30::j 31::j 32::j 33::j 34::j 35::j 36::j 37::j 38::j 39::j 40::j 41::j 42::j 43::j 44::j 45::j 46::j 47::j 48::j 49::j 50::j 51::j 52::j 53::j 54::j 55::j 56::j 57::j 58::j 59::j 60::j 61::j 62::j 63::j 64::j 65::j 66::j 67::j 68::j 69::j 70::j 71::j 72::j 73::j 74::j 75::j 76::j 77::j 78::j 79::j 80::j 81::j 82::j 83::j 84::j 85::j 86::j 87::j 88::j 89::j 90::j 91::j 92::j 93::j 94::j 95::j 96::j 97::j 98::j 99::j 100::j 101::j 102::j 103::j 104::j 105::j 106::j 107::j 108::j 109::j 110::j 111::j 112::j 113::[])) ?_ ?_ _ _ ?_
 rotate_left 2
 ·exact ⟨⟨by simp,by simp,by simp⟩,s9 (by simp)⟩
 ·rintro a x r fr hh hll ⟨⟨i0,i1,i2⟩,j,rfl⟩
  have hil:a.length < L.length:=by rw [hll];simp
  obtain ⟨x1,x2⟩:=hF x (by rw [hll];simp)
  have ho3:ls o = a.map E++E x::r.map E:=by rw [ho1,hll];simp
  have hso:some (ls o) = o:=by rw [ho3];exact (O9 ho3).symm
  have ho2:ls o' = a.map F++F x::r.map F:=by rw [ho,hll];simp
  have hso':some (ls o') = o':=by rw [ho2];exact (O9 ho2).symm
  have hix1:=I4 (P:=prog) (enc:=c8) (s:=2) (l:=ls o) (i:=a.length) underlying48 (by simp) (by omega) (by rw [ho1,oqi];exact hil)
  rw [hso,hZ1] at hix1
  have hix2:=I4 (P:=prog) (enc:=c8) (s:=2) (l:=ls o') (i:=a.length) underlying48 (by simp) (by omega) (by rw [ho,oqi];exact hil)
  rw [hso',hZ2] at hix2
  have r10:=F3 (enc:=c8) (s:=2) z9 (a.map E) (E x) (r.map E) (o:=0) (n:=1) (by omega)
  have r11:=F3 (enc:=c8) (s:=2) z9 (a.map E) (E x) (r.map E) (o:=1) (n:=1) (by omega)
  have r20:=F3 (enc:=c8) (s:=2) z9 (a.map F) (F x) (r.map F) (o:=0) (n:=1) (by omega)
  have r21:=F3 (enc:=c8) (s:=2) z9 (a.map F) (F x) (r.map F) (o:=1) (n:=1) (by omega)
  rw [← ho3,oqi] at r10 r11
  rw [← ho2,oqi] at r20 r21
  simp only [Nat.add_zero] at r10 r20
  obtain ⟨⟨xn,xr⟩,hx⟩:∃ y,E x = y:=⟨_,rfl⟩
  obtain ⟨⟨yn,yr⟩,hy⟩:∃ y,F x = y:=⟨_,rfl⟩
  rw [hx] at r10 r11 x1 x2
  rw [hy] at r20 r21 x1 x2
  simp only at x1 x2
  subst x1
  replace r10:sub (cat c8 (ls o)) (a.length * 2) 1 = some [.str yn]:=r10
  replace r11:sub (cat c8 (ls o)) (a.length * 2 + 1) 1 = some (D6 xr):=r11
  replace r20:sub (cat c8 (ls o')) (a.length * 2) 1 = some [.str yn]:=r20
  replace r21:sub (cat c8 (ls o')) (a.length * 2 + 1) 1 = some (D6 yr):=r21
  have hw:IntKind.i64.wrap ((a.length:Int) + 1) = ((a++[x]).length:Int):=by rw [J9];exact D3 (by omega)
  generalize hA2:a++[x] = A2 at *
  generalize hC1:cat c8 (ls o) = C1 at *
  generalize hC2:cat c8 (ls o') = C2 at *
  generalize D6 xr = X1 at *
  generalize D6 yr = X2 at *
  first | (refine c7 ?_;intro Q6 hQ6) | have hQ6:=oqk
  repeat' (first
   | (replace hQ6:=hQ6;simp [J7,hl1,i1,i2,hix1,hix2,r10,r11,r20,r21,hil,x2,hw])
   | (refine hQ6 _ _ _ ?_;clear hQ6 Q6;first | simp only [] | simp [J7,hl1,hl2,i1,i2,hix1,hix2,r10,r11,r20,r21,hil,x2,hw,u6,u5,p9,s8,H8,c5,l0,l5,hown] | skip)
   | (refine C5 (by assumption) ?_;(try clear hQ6);first | simp only [] | simp [J7,hl1,hl2,i1,i2,hix1,hix2,r10,r11,r20,r21,hil,x2,hw,u6,u5,p9,s8,H8,c5,l0,l5,hown] | skip)
   | ((fail_if_success replace hQ6:=hQ6);(first | refine c7 ?_ | refine y5 ?_ | refine y3 ?_);intro Q6 hQ6)
   | refine dF (id:=6) [0,1,2,3,4,5,6,7,8,9,10,11,12,13,14,15,16,17,18,19,20,21,22,23,24,25,26,27,28] [] ?_)
  exact ⟨⟨i0,i1,i2⟩,s9 (by simp)⟩
 ·rintro fr hh ⟨⟨i0,i1,i2⟩,j,rfl⟩
  first | (refine c7 ?_;intro Q7 hQ7) | have hQ7:=oqk
  repeat' (first
   | (replace hQ7:=hQ7;simp [hl1,i1])
   | (refine hQ7 _ _ _ ?_;clear hQ7 Q7;first | simp only [] | simp [hl1,i1,u6,u5,p9,s8,H8,c5,l0,l5,hown] | skip)
   | (refine C5 (by assumption) ?_;(try clear hQ7);first | simp only [] | simp [u6,u5,p9,c5,l5,hown] | skip)
   | ((fail_if_success replace hQ7:=hQ7);(first | refine c7 ?_ | refine y5 ?_ | refine y3 ?_);intro Q7 hQ7)
   | refine dF (id:=6) [0,1,2,3,4,5,6,7,8,9,10,11,12,13,14,15,16,17,18,19,20,21,22,23,24,25,26,27,28] [] ?_)
theorem r0s (v:Wm.Value):EqV v (a0s v):=by
 unfold a0s
 split
 ·rename_i h;exact ⟨h.symm,fun _=>rfl,fun e=>by rw [h] at e;cases e⟩
 ·exact ⟨rfl,fun _=>rfl,fun _=>rfl⟩
theorem EqV.symm {v w:Wm.Value} (e:EqV v w):EqV w v:=⟨e.k.symm,fun h=>(e.b (by rw [← e.k];exact h)).symm,fun h=>(e.n (by rw [← e.k];exact h)).symm⟩
theorem w0G {l:List Named} (ok:TblOk l) {x:Named} (hx:x ∈ l):P3 x.r = true:=by have:=L5 x.r;rwa [(ok.row x hx).1] at this
structure One (p:Pt):Prop where
 sp:p.t.span = ⟨[],[]⟩
 fr:p.t.fr = false
 rows:TblOk p.t.rows
 cache:CchOk p.t.cache
theorem c0z (n:BL):K8 ⟨[],[]⟩ n = true:=by simp [K8,blt]
theorem j0g:TblOk []:=⟨rfl,by simp,by simp,by simp⟩
theorem s0q:CchOk []:=.of rfl (by simp)
theorem x0U {p:Pt} (o:One p):SpI [p.t] p.t.rows:=by
 refine ⟨o.sp,fun t ht=>?_,by simp,o.rows⟩
 rw [List.mem_singleton.1 ht]
 exact ⟨by rw [o.sp];rfl,o.fr,o.rows,o.cache,fun x _=>by rw [o.sp];exact c0z _⟩
theorem x0v {h:H} {s:Nat} {sp:AS} {p:Pt} {last code:Int} (w:StAt h s sp [p] last code) (po:One p) (client seq:Int) (B5:Int) (C7:BL) (I0:BL) (p5:Bool) (l6:Bool) (p4:BL) (i9:Int) (l9:Option BL) (p6:Nat) (o_l:Option (List Change)) (A7:Int) (oi:OpIs ⟨B5,C7,I0,⟨p5,l6,p4,⟨i9,l9,p6⟩⟩,o_l,A7⟩) (hc:0 ≤ client∧client ≤ 255) (hs:1 ≤ seq∧seq ≤ 1073741824) (hfr:∀ x ∈ p.t.cache,x.client = client→x.seq < seq) :
  ∃ h' p',W K 12 [.one (.ptr s 0 0),.one (ii client),.one (ii seq),.agg [ii 1,ii B5,.str C7,.str I0,.bool p5,.bool l6,.str p4,ii i9,bs l9,.flt p6,sl 6 l7 o_l,ii A7,.str [],.str [],ii 0,.str [],ii 0,ii 0,.nilslc]] h = some (.ret (.agg (l8 (opT ⟨[],[]⟩ p.t.rows ⟨B5,C7,I0,⟨p5,l6,p4,⟨i9,l9,p6⟩⟩,o_l,A7⟩).1)) h') ∧
   p'.t = ⟨⟨[],[]⟩,p.t.gen,false,(opT ⟨[],[]⟩ p.t.rows ⟨B5,C7,I0,⟨p5,l6,p4,⟨i9,l9,p6⟩⟩,o_l,A7⟩).2,(X4 p.t.cache client seq (some (c0Q (opT ⟨[],[]⟩ p.t.rows ⟨B5,C7,I0,⟨p5,l6,p4,⟨i9,l9,p6⟩⟩,o_l,A7⟩).1))).1⟩∧One p'∧StAt h' s sp [p'] last code∧Fp h h' (fpS s sp [p]) (fpS s sp [p']):=by
 have w':StAt h s sp ([]++p::[]) last code:=w
 have hf:d0C C7 none ([]++p::[]) = some p:=by simp [d0C,po.sp,c0z]
 obtain ⟨h',p',e,e1,e2,e3,e4⟩:=x0u w' (by simp) client seq B5 C7 I0 p5 l6 p4 i9 l9 p6 o_l A7 oi.ok (by have:=oi.n;simp only at this;omega) (by have:=oi.cv;simp only at this;omega) hf (by rw [po.sp];exact c0z _) po.fr (by rw [po.sp];rfl) po.rows po.cache (v0O hs.1 hfr) hc hs.2
 rw [po.sp] at e e2
 exact ⟨h',p',e,e2,⟨by rw [e2],by rw [e2],by rw [e2];exact l0H po.rows _ _,by rw [e2];exact n0Q po.cache _ _ _⟩,e3,e4⟩
abbrev w0L (x:Nat):List Change:=[⟨5,[120],5,⟨2,none,x⟩⟩]
def f0Y (row:BL) (x:Nat):Wm.Op:=⟨2,row,[],a0e,some (w0L x),0⟩
theorem B0Y (row:BL) (x:Nat) (h:H):W K 26 [.one (.str row),.one (.flt x)] h = some (.ret (.agg [ii 1,ii 2,.str row,.str [],.bool false,.bool false,.str [],ii 0,.nilslc,.flt 0,sl 6 l7 (some (w0L x)),ii 0,.str [],.str [],ii 0,.str [],ii 0,ii 0,.nilslc]) h):=by
 have hown:A8 S.own 26 = false:=by kernel_rfl
 refine p7 hp (by simp [s7,c5]) (c6 rfl rfl (by kernel_rfl) func26 rfl (by simp [Tryz.f26]) ?_)
 simp only [Tryz.f26]
 refine c7 ?_;intro Q1 hQ1
 repeat' (first
  | (replace hQ1:=hQ1;simp [sl,cat,l7,C4,u6,u5,p9,c5,l5,hown])
  | refine hQ1 _ _ _ ?_)
theorem v0C {row:BL} (hr:I6 row = true) (x:Nat):OpIs (f0Y row x):=by
 have:=a0B hr
 refine ⟨?_,this,by simp [f0Y],by simp [f0Y,a0e],by simp [f0Y,a0e],by simp [f0Y],by simp [f0Y]⟩
 have hx:I6 [120] = true:=rfl
 simp [g0N,f0Y,hr,hx,h0D,a0e,F0,l0p,Q0]
theorem z0k (h:H):StAt (h.new ⟨0,[3],true,[.nilslc,ii 0,ii 0]⟩) h.next .nilslc [] 0 0:=⟨by simp,by simp,.inl ⟨rfl,rfl⟩,by simp,by simp [fpS,z0]⟩
theorem p0H (h:H):W K 31 [.one .nilslc] h = some (.ret (.one (.bool true)) h):=by
 have hown:A8 S.own 31 = false:=by kernel_rfl
 refine p7 hp (by simp [s7,c5]) (c6 rfl rfl (by kernel_rfl) func31 rfl (by simp [Tryz.f31]) ?_)
 simp only [Tryz.f31]
 refine c7 ?_;intro Q2 hQ2
 repeat' (first
  | (replace hQ2:=hQ2;simp [u6])
  | refine hQ2 _ _ _ ?_)
 refine N7 hp 0 (fun i fr hh=>True∧∃ j:Nat→AV,fr = (j 0::j 1::j 2::j 3::j 4::j 5::j 6::j 7::(.one (ii 0))::(.one (ii 0))::j 10::j 11::j 12::j 13::j 14::j 15::j 16::j 17::j 18::j 19::j 20::j 21::j 22::j 23::j 24::j 25::j 26::j 27::j 28::j 29::[])) ?_ ?_ _ _ ⟨trivial,s9 (by simp)⟩
 ·intro i fr hh hi;omega
 ·rintro fr hh ⟨_,j,rfl⟩
  first | (refine c7 ?_;intro Q3 hQ3) | have hQ3:=oqk
  repeat' (first
   | (replace hQ3:=hQ3;simp [u6])
   | (refine hQ3 _ _ _ ?_;clear hQ3 Q3;first | simp only [] | simp [u6,u5,p9,s8,H8,c5,l0,l5,hown] | skip)
   | (refine C5 (by assumption) ?_;(try clear hQ3);first | simp only [] | simp [u6,u5,p9,c5,l5,hown] | skip)
   | ((fail_if_success replace hQ3:=hQ3);(first | refine c7 ?_ | refine y5 ?_ | refine y3 ?_);intro Q3 hQ3))
theorem n0T (h:H):∃ h',W K 8 [.one .nilslc] h = some (.ret (.one (.ptr h.next 0 0)) h')∧StAt h' h.next .nilslc [] 0 0∧Kept h h':=by
 obtain ⟨h8,e8,w8,g8⟩:=q0r (z0k h) (by simp)
 have hs:X0 pLt ([]:List Pt) = []:=rfl
 rw [hs] at w8 g8
 have kp:Kept h h8:=⟨by have:=g8.next;simp at this;omega,fun x hx=>by rw [g8.keep x (by simp;omega) (by simp [fpS,z0];omega),u4 (by omega)]⟩
 obtain ⟨P,hP⟩:∃ P:CR→Prop,P = fun r=>r = .ret (.one (.ptr h.next 0 0)) h8:=⟨_,rfl⟩
 suffices hh:∃ r,W K 8 [.one .nilslc] h = some r∧P r by
  rw [hP] at hh
  obtain ⟨r,e,rfl⟩:=hh
  exact ⟨h8,e,w8,kp⟩
 have hA:=p0H
 refine H6 hp rfl rfl rfl func8 rfl (by simp [Tryz.f8]) ?_
 simp only [Tryz.f8]
 refine c7 ?_;intro Q4 hQ4
 repeat' (first
  | (replace hQ4:=hQ4;simp)
  | refine hQ4 _ _ _ ?_
  | (first | refine dF (id:=9) [0,1,2,3,4,5,6,7,8,9,10] [] ?_ | refine dF (id:=10) [0,1,2,3,4,5,6,7,8,9,10,11,12,13,14,15,16,17] [(4,9),(4,10),(6,9),(6,10),(8,9),(8,10)] ?_))
 refine N7 hp 0 (fun i fr hh=>hh = h.new ⟨0,[3],true,[.nilslc,ii 0,ii 0]⟩∧∃ j:Nat→AV,fr = ((.one .nilslc)::j 1::j 2::(.one (.ptr h.next 0 0))::(.one .nilslc)::j 5::j 6::j 7::j 8::j 9::(.one (ii 0))::(.one (ii 0))::j 12::j 13::j 14::j 15::j 16::j 17::j 18::j 19::j 20::j 21::j 22::j 23::j 24::j 25::j 26::j 27::j 28::j 29::j 30::j 31::j 32::j 33::j 34::j 35::j 36::j 37::j 38::j 39::j 40::j 41::j 42::j 43::j 44::j 45::j 46::j 47::j 48::j 49::j 50::j 51::j 52::j 53::j 54::j 55::j 56::j 57::j 58::j 59::j 60::j 61::j 62::j 63::j 64::j 65::j 66::[])) ?_ ?_ _ _ ⟨rfl,s9 (by simp)⟩
 ·intro i fr hh hi;omega
 ·rintro fr hh ⟨rfl,j,rfl⟩
  first | (refine c7 ?_;intro Q5 hQ5) | have hQ5:=oqk
  repeat' (first
   | (replace hQ5:=hQ5;simp [hA,e8])
   | (refine hQ5 _ _ _ ?_;clear hQ5 Q5;first | simp only [] | simp [hA,e8] | skip)
   | (refine C5 (by assumption) ?_;(try clear hQ5);first | simp only [] | simp [hA] | skip)
   | ((fail_if_success replace hQ5:=hQ5);(first | refine c7 ?_ | refine y5 ?_ | refine y3 ?_);intro Q5 hQ5)
   | (first | refine dF (id:=9) [0,1,2,3,4,5,6,7,8,9,10] [] ?_ | refine dF (id:=10) [0,1,2,3,4,5,6,7,8,9,10,11,12,13,14,15,16,17] [(4,9),(4,10),(6,9),(6,10),(8,9),(8,10)] ?_))
  rw [hP]
theorem y0k {h:H} {s:Nat} {sp:AS} {ps:List Pt} {last code:Int} (w:StAt h s sp ps last code) (hn:ps.length < 1000000) (client seq:Int) (B5:Int) (C7:BL) (I0:BL) (p5:Bool) (l6:Bool) (p4:BL) (i9:Int) (l9:Option BL) (p6:Nat) (o_l:Option (List Change)) (A7:Int) (oo:g0N ⟨B5,C7,I0,⟨p5,l6,p4,⟨i9,l9,p6⟩⟩,o_l,A7⟩ = true) (ol:(ls o_l).length < 9223372036854775807) (hf:d0C C7 none ps = none) :
  ∃ h',W K 12 [.one (.ptr s 0 0),.one (ii client),.one (ii seq),.agg [ii 1,ii B5,.str C7,.str I0,.bool p5,.bool l6,.str p4,ii i9,bs l9,.flt p6,sl 6 l7 o_l,ii A7,.str [],.str [],ii 0,.str [],ii 0,ii 0,.nilslc]] h = some (.ret (.agg (l8 (noA 26))) h')∧Kept h h'∧StAt h' s sp ps last code:=by
 obtain ⟨B,hB⟩:∃ B:Blk,B = ⟨0,[19],true,[ii 1,ii B5,.str C7,.str I0,.bool p5,.bool l6,.str p4,ii i9,bs l9,.flt p6,sl 6 l7 o_l,ii A7,.str [],.str [],ii 0,.str [],ii 0,ii 0,.nilslc]⟩:=⟨_,rfl⟩
 obtain ⟨h2,hh2⟩:∃ h2,(h.new B).new a0w = h2:=⟨_,rfl⟩
 have e1:=v0F (((w.new B).new a0w).new ⟨0,[11],true,[ii B5,.str C7,.str I0,.bool p5,.bool l6,.str p4,ii i9,bs l9,.flt p6,sl 6 l7 o_l,ii A7]⟩ |>.new a0w) hn C7
 rw [hf] at e1
 simp only [j0W] at e1
 have hno:=y0p 26
 have hCl:(l8 (noA 26)).length = 11:=rfl
 have hCs:sub (l8 (noA 26)) 0 11 = some (l8 (noA 26)):=I8 hCl
 have e2:W K 39 [.one (.ptr s 0 0),.one (ii client),.one (ii seq),.agg [ii B5,.str C7,.str I0,.bool p5,.bool l6,.str p4,ii i9,bs l9,.flt p6,sl 6 l7 o_l,ii A7]] ((h.new B).new a0w) = some (.ret (.agg (l8 (noA 26))) ((((h.new B).new a0w).new ⟨0,[11],true,[ii B5,.str C7,.str I0,.bool p5,.bool l6,.str p4,ii i9,bs l9,.flt p6,sl 6 l7 o_l,ii A7]⟩).new ⟨0,[11],true,l8 (noA 26)⟩)):=by
  generalize l8 (noA 26) = C at *
  rw [hh2] at e1 ⊢
  refine A9 hp rfl rfl rfl func39 rfl (by simp [Tryz.f39]) ?_
  simp only [Tryz.f39]
  refine c7 ?_;intro Q6 hQ6
  repeat' (first
   | (replace hQ6:=hQ6;simp [-lay,M8,hCl,hCs,D0H,e1,hno,P8])
   | refine hQ6 _ _ _ ?_)
 rw [hB] at e2
 have e:=A0v (B6:=1) client seq B5 C7 I0 p5 l6 p4 i9 l9 p6 o_l A7 [] [] 0 [] 0 0 none rfl (by simp only [g0U,if_true];exact oo) ol (by simpa only [C4] using e2) (by simp [K9])
 simp only [C4] at e
 have kp:Kept h (((((h.new ⟨0,[19],true,[ii 1,ii B5,.str C7,.str I0,.bool p5,.bool l6,.str p4,ii i9,bs l9,.flt p6,sl 6 l7 o_l,ii A7,.str [],.str [],ii 0,.str [],ii 0,ii 0,.nilslc]⟩).new a0w).new ⟨0,[11],true,[ii B5,.str C7,.str I0,.bool p5,.bool l6,.str p4,ii i9,bs l9,.flt p6,sl 6 l7 o_l,ii A7]⟩).new ⟨0,[11],true,l8 (noA 26)⟩).set (h.next + 1) ⟨0,[11],true,l8 (noA 26)⟩):=⟨by simp;omega,fun x hx=>by rw [p0,if_neg (by omega),u4 (by simp;omega),u4 (by simp;omega),u4 (by simp;omega),u4 (by omega)]⟩
 exact ⟨_,e,kp,w.kept kp⟩
theorem A0c (c:Nat→Option (List AS)) (b v o:Nat):bin prog c .eql 23 (.one (.ptr b v o)) (.one .nilptr) = some (.bool false):=by simp [bin,f0O,a0c]
theorem n0w (h:H):∃ h' s sp p,W K 8 [.one (.slc h.next 0 0 1 4 none)] (h.new ⟨0,[4],true,[.str [],.str [],ii 0,ii 1]⟩) = some (.ret (.one (.ptr s 0 0)) h')∧StAt h' s sp [p] 1 0∧p.t = ⟨⟨[],[]⟩,1,false,[],[]⟩∧One p∧Kept h h'∧(∀ x ∈ fpS s sp [p],h.next ≤ x):=by
 obtain ⟨h',sp,p,e,w,e1,k,l⟩:=t0l (h:=h.new ⟨0,[4],true,[.str [],.str [],ii 0,ii 1]⟩) (b:=h.next) (by simp) (by simp)
 refine ⟨h',_,sp,p,e,w,e1,⟨by rw [e1],by rw [e1],by rw [e1];exact j0g,by rw [e1];exact s0q⟩,⟨by have:=k.1;simp at this;omega,fun x hx=>by rw [k.2 x (by simp;omega),u4 (by omega)]⟩,fun x hx=>by have:=l x hx;simp at this;omega⟩
theorem s0Q:(c0t [] (f0Y [110] 4617315517961601024)).2 = 0∧(c0t [] (f0Y [110] 4617315517961601024)).1.length = 1:=by decide +kernel
theorem t0w (h:H):∃ h',W K 15 [] h = some (.ret (.one (.bool true)) h')∧Kept h h':=by
 have hw:=n0I h
 obtain ⟨h2,s,sp2,p,e2,w2,ep,po,k2,l2⟩:=n0w h
 have hps:p.t.span.lo = []:=by rw [po.sp]
 have hph:p.t.span.hi = []:=by rw [po.sp]
 have hI:SpI ((([]:List Pt)++p::[]).map (·.t)) p.t.rows:=x0U po
 obtain ⟨h3,sp3,pa,pb,e3,w3,I3,ta3,tb3,g3⟩:=q0V (l1:=[]) (l2:=[]) (k:=[109]) (g:=2) w2 (by simp) hI 1 1 (by simp) (by simp) (by rw [po.sp];exact c0z _) (by rw [hps];simp) (by omega) (by omega)
 rw [hps,hph] at e3
 simp only [v0B] at e3
 simp only [oql] at w3 g3 I3
 obtain ⟨C0,hC0⟩:∃ C,l8 (noA 0) = C:=⟨_,rfl⟩
 have hCl:C0.length = 11:=by rw [← hC0];rfl
 have hCs:sub C0 0 11 = some C0:=I8 hCl
 have hCz:sub C0 0 1 = some [ii 0]:=by rw [← hC0];rfl
 obtain ⟨C1,hC1⟩:∃ C,l8 (noA 26) = C:=⟨_,rfl⟩
 have hDl:C1.length = 11:=by rw [← hC1];rfl
 have hDs:sub C1 0 11 = some C1:=I8 hDl
 have hDz:sub C1 0 1 = some [ii 26]:=by rw [← hC1];rfl
 rw [hC0] at e3
 have w3':StAt (h3.new ⟨0,[11],true,C0⟩) s sp3 ([pa]++pb::[]) 2 0:=w3.new _
 have l3:∀ x ∈ fpS s sp3 [pa,pb],h.next ≤ x:=fun x hx=>by
  rcases g3.own x hx with e | e
  ·exact l2 x e
  ·have:=k2.1;omega
 have k3:Kept h h3:=⟨by have:=g3.next;have:=k2.1;omega,fun x hx=>by rw [g3.keep x (by have:=k2.1;omega) (fun e=>by have:=l2 x e;omega),k2.2 x hx]⟩
 have oi:=v0C (row:=[110]) rfl 4617315517961601024
 have hpa:pa.t = ⟨⟨[],[109]⟩,2,false,[],[]⟩:=by rw [ta3,ep];rfl
 have hpb:pb.t = ⟨⟨[109],[]⟩,2,false,[],[]⟩:=by rw [tb3,ep];rfl
 obtain ⟨h4,pb',e4,d4,t4,w4,g4⟩:=x0u w3' (by simp) 1 2 2 [110] [] false false [] 0 none 0 (some (w0L 4617315517961601024)) 0 oi.ok (by simp) (by simp) (by
  have h1:K8 ⟨[],[109]⟩ [110] = false:=by decide
  have h2:K8 ⟨[109],[]⟩ [110] = true:=by decide
  simp [d0C,hpa,hpb,h1,h2]) (by rw [hpb];decide) (by rw [hpb]) (by rw [hpb];decide) (by rw [hpb];exact j0g) (by rw [hpb];exact s0q) (by rw [hpb];rfl) (by omega) (by omega)
 rw [hpb] at e4 t4
 simp only [show ((2:Int) = 1) = False from eq_false (by omega),opT,if_true,if_false] at e4 t4
 have hfc:=s0Q
 simp only [f0Y,a0e] at hfc
 rw [hfc.1,hC0] at e4
 simp only [oqm,oql] at w4 g4
 have l4:∀ x ∈ fpS s sp3 [pa,pb'],h.next ≤ x:=fun x hx=>by
  rcases g4.own x hx with e | e
  ·exact l3 x e
  ·have:=k3.1;simp at e;omega
 have n4:=g4.next
 simp only [A1] at n4
 have k4:Kept h h4:=⟨by have:=k3.1;omega,fun x hx=>by rw [g4.keep x (by have:=k3.1;simp;omega) (fun e=>by have:=l3 x e;omega),u4 (by have:=k3.1;omega),k3.2 x hx]⟩
 have f4:h4.f h3.next = some ⟨0,[11],true,C0⟩:=by rw [g4.keep _ (by simp) (fun e=>by have:=w3.fp_lt _ e;omega)];simp
 have w4':=w4.new ⟨0,[11],true,C0⟩
 have e5:=B0o w4' (by simp)
 have hsm:c0V false ([pa,pb'].map (·.t)) = [b0v pa.t,b0v pb'.t]:=by simp [c0V,hpa,t4]
 rw [hsm] at e5
 simp only [z0w] at e5
 obtain ⟨h6,e6,w6,k6⟩:=n0T (h4.new ⟨0,[11],true,C0⟩)
 obtain ⟨h7,e7,k7,w7⟩:=y0k w6 (by simp) 1 1 2 [110] [] false false [] 0 none 0 (some (w0L 4617315517961601024)) 0 oi.ok (by simp) rfl
 rw [hC1] at e7
 simp only [A1] at e6 e7 w7
 have n6:=k6.1
 have n7:=k7.1
 simp only [A1] at n6
 have kk:∀ x,x < h4.next + 1→h7.f x = (h4.new ⟨0,[11],true,C0⟩).f x:=fun x hx=>by rw [k7.2 x (by omega),k6.2 x (by simpa using hx)]
 have f7a:h7.f h3.next = some ⟨0,[11],true,C0⟩:=by rw [kk _ (by omega),u4 (by omega)];exact f4
 have f7b:h7.f h4.next = some ⟨0,[11],true,C0⟩:=by rw [kk _ (by omega)];simp
 have w8:StAt (h7.new ⟨0,[11],true,C1⟩) s sp3 [pa,pb'] 2 0:=(((w4'.kept k6).kept k7).new _)
 have e8:=k0Q w8 (by simp) (fun q hq=>by
  simp only [oqf,List.not_mem_nil,or_false] at hq
  rcases hq with rfl | rfl
  ·rw [hpa];exact j0g
  ·rw [t4];exact v0T j0g _)
 have hrl:(b0E ([pa,pb'].map (·.t))).length = 1:=by simp [b0E,hpa,t4];exact hfc.2
 have hla8:∀ (u:TypeId) (h':H),O7 (sl 2 c8 (nz (b0E ([pa,pb'].map (·.t))))) (some (.slice u)) h' = some (one (ii 1) h'):=fun u h'=>by rw [O8,a0d,hrl];rfl
 generalize sl 2 c8 (nz (b0E ([pa,pb'].map (·.t)))) = Z at *
 have hla5:∀ (u:TypeId) (h':H),O7 (sl 4 M7 (some [b0v pa.t,b0v pb'.t])) (some (.slice u)) h' = some (one (ii 2) h'):=fun u h'=>O8 ..
 have hix:=I4 (P:=prog) (enc:=M7) (s:=4) (l:=[b0v pa.t,b0v pb'.t]) (i:=1) underlying25 (by simp) (by omega) (by simp)
 have hsub:sub (cat M7 [b0v pa.t,b0v pb'.t]) 7 1 = some [ii 2]:=by rw [hpa,t4];rfl
 generalize cat M7 [b0v pa.t,b0v pb'.t] = CT at *
 generalize sl 4 M7 (some [b0v pa.t,b0v pb'.t]) = ZT at *
 have m1:¬ h3.next = h7.next:=by omega
 have m2:¬ h4.next = h7.next:=by omega
 have m3:¬ h3.next = h4.next:=by omega
 have eop:=B0Y [110] 4617315517961601024
 simp only [C4] at e4 e7
 refine ⟨h7.new ⟨0,[11],true,C1⟩, ?_,⟨by simp;have:=k4.1;omega,fun x hx=>by rw [u4 (by have:=k4.1;omega),kk x (by have:=k4.1;omega),u4 (by have:=k4.1;omega),k4.2 x hx]⟩⟩
 generalize sl 6 l7 (some (w0L 4617315517961601024)) = ZO at *
 refine A9 hp rfl rfl rfl func15 rfl (by simp [Tryz.f15]) ?_
 simp only [Tryz.f15]
 refine c7 ?_;intro Q1 hQ1
 repeat' (first
  | (replace hQ1:=hQ1;simp [-lay,N3,N5,U8,M8,hCl,hCz,hDl,hDz,A0c,hw,e2,e3,eop,e4,e5,e6,e7,f7a,f7b,e8,hla8,hla5,hix,hsub,m1,m2])
  | refine hQ1 _ _ _ ?_)
theorem B0u:∀ l,FitL [.int .i64,.int .i64,.int .i64,.bool,.int .i64,.flt,.slc [.int .u8]] l→∃ x:KC,(y0v x∧x.v.x < 2 ^ 64)∧l = d0z x:=by
 intro l hf
 obtain ⟨a1,r1,rfl,g1,hf⟩:=K7 hf
 obtain ⟨a2,r2,rfl,g2,hf⟩:=K7 hf
 obtain ⟨a3,r3,rfl,g3,hf⟩:=K7 hf
 obtain ⟨a4,r4,rfl,g4,hf⟩:=K7 hf
 obtain ⟨a5,r5,rfl,g5,hf⟩:=K7 hf
 obtain ⟨a6,r6,rfl,g6,hf⟩:=K7 hf
 obtain ⟨a7,r7,rfl,g7,hf⟩:=K7 hf
 cases k0m hf
 obtain ⟨n1,b1,rfl⟩:=b0t g1
 obtain ⟨n2,b2,rfl⟩:=b0t g2
 obtain ⟨n3,b3,rfl⟩:=b0t g3
 obtain ⟨n4,rfl⟩:=h0i g4
 obtain ⟨n5,b5,rfl⟩:=b0t g5
 obtain ⟨n6,b6,rfl⟩:=s0d g6
 obtain ⟨n7,b7,rfl⟩:=v0l g7
 exact ⟨⟨n1,n2,n3,⟨n4,n5,n6,n7⟩⟩,⟨⟨b1,b2,b3,b5⟩,b6⟩,rfl⟩
def KOn (x:KO):Prop:=x.v.x < 2 ^ 64∧∀ c ∈ ls x.l,c.v.x < 2 ^ 64
abbrev koS:List CS:=[.int .i64,.int .i64,.int .i64,.int .i64,.int .i64,.bool,.bool,.bool,.int .i64,.flt,.slc [.int .u8],.slc [.int .i64,.int .i64,.int .i64,.bool,.int .i64,.flt,.slc [.int .u8]]]
theorem x0p:∀ l,FitL koS l→∃ x:KO,(u0G x∧KOn x)∧l = a0N x:=by
 intro l hf
 obtain ⟨x1,r1,rfl,q1,hf⟩:=K7 hf
 obtain ⟨x2,r2,rfl,q2,hf⟩:=K7 hf
 obtain ⟨x3,r3,rfl,q3,hf⟩:=K7 hf
 obtain ⟨x4,r4,rfl,q4,hf⟩:=K7 hf
 obtain ⟨x5,r5,rfl,q5,hf⟩:=K7 hf
 obtain ⟨x6,r6,rfl,q6,hf⟩:=K7 hf
 obtain ⟨x7,r7,rfl,q7,hf⟩:=K7 hf
 obtain ⟨x8,r8,rfl,q8,hf⟩:=K7 hf
 obtain ⟨x9,r9,rfl,q9,hf⟩:=K7 hf
 obtain ⟨x10,r10,rfl,q10,hf⟩:=K7 hf
 obtain ⟨x11,r11,rfl,q11,hf⟩:=K7 hf
 obtain ⟨x12,r12,rfl,q12,hf⟩:=K7 hf
 cases k0m hf
 obtain ⟨n1,b1,rfl⟩:=b0t q1
 obtain ⟨n2,b2,rfl⟩:=b0t q2
 obtain ⟨n3,b3,rfl⟩:=b0t q3
 obtain ⟨n4,b4,rfl⟩:=b0t q4
 obtain ⟨n5,b5,rfl⟩:=b0t q5
 obtain ⟨n6,rfl⟩:=h0i q6
 obtain ⟨n7,rfl⟩:=h0i q7
 obtain ⟨n8,rfl⟩:=h0i q8
 obtain ⟨n9,b9,rfl⟩:=b0t q9
 obtain ⟨n10,b10,rfl⟩:=s0d q10
 obtain ⟨n11,b11,rfl⟩:=v0l q11
 obtain ⟨n12,b12,c12,rfl⟩:=m0Y B0u q12
 exact ⟨⟨n1,n2,n3,n4,n5,n6,n7,⟨n8,n9,n10,n11⟩,n12⟩,⟨⟨b1,b2,b3,b4,b5,b9,fun c hc=>(c12 c hc).1⟩,b10,fun c hc=>(c12 c hc).2⟩,rfl⟩
end Go.Proofs.YtiagcnfmgigllaaGreat
namespace Wm
open Go Go.Ab
def vN (v:Value):Prop:=v.kind = 2→v.n < 2 ^ 64
def c0W (r:Row):Prop:=∀ c ∈ ls r,∀ x ∈ ls c.l,vN x.v
def l0i (l:List Named):Prop:=∀ x ∈ l,c0W x.r
def opN (o:Op):Prop:=∀ c ∈ ls o.l,vN c.v
theorem r0S {n:Nat} (h:n < 2 ^ 64):b0n n < 2 ^ 64:=by unfold b0n;split;decide;exact h
theorem y0O (a b:Nat):t0I a b < 2 ^ 64:=by
 unfold t0I
 cases h:(FloatKind.format .f64).add a b with
 | none=>decide
 | some r=>exact r0S ((FloatKind.format .f64).add_lt h)
theorem o0q {v:Value} (h:vN v):vN (J4 v):=by
 unfold J4
 split
 ·intro e;simp at e
 split
 ·rename_i h1 h2;intro _;exact r0S (h h2)
 ·intro e;simp at e
theorem a0A:c0W none:=by intro c hc;simp at hc
theorem V8 {r:Row} (h:c0W r):c0W (rowCopy r):=by
 unfold rowCopy
 split
 ·intro c hc x hx
  simp only [a0d,List.mem_map] at hc
  obtain ⟨c0,hc0,rfl⟩:=hc
  simp only [S3,a0d,List.mem_map] at hx
  obtain ⟨x0,hx0,rfl⟩:=hx
  exact o0q (h c0 hc0 x0 hx0)
 ·exact a0A
theorem B0t:vN zV:=by intro e;simp [zV] at e
theorem g0u {α:Type} {l:List α} {i:Nat} {x y:α} (hi:i ≤ l.length) (h:y ∈ l.insertIdx i x):y = x ∨ y ∈ l:=by
 rw [a0E hi] at h
 rcases oqe.1 h with h | h
 ·exact .inr (List.mem_of_mem_take h)
 ·rcases oqf.1 h with h | h
  ·exact .inl h
  ·exact .inr (List.mem_of_mem_drop h)
theorem v0z {l:List Version} (h:∀ x ∈ l,vN x.v) {t:Int} {v:Value} (hv:vN v):∀ x ∈ d0L l t v,vN x.v:=by
 intro x hx
 unfold d0L at hx
 dsimp only at hx
 rcases g0u (k0A _ _) (List.mem_of_mem_take hx) with rfl | hx
 ·exact o0q hv
 ·exact h x (List.mem_filter.1 hx).1
theorem r0Y {l:List Column} (h:∀ c ∈ l,∀ x ∈ ls c.l,vN x.v) (i:Nat):∀ x ∈ ls ((l[i]?).bind (·.l)),vN x.v:=by
 intro x hx
 cases hg:l[i]? with
 | none=>rw [hg] at hx;simp at hx
 | some y=>rw [hg] at hx;exact h y (List.mem_of_getElem? hg) x hx
theorem p0b {l:List Column} (h:∀ c ∈ l,∀ x ∈ ls c.l,vN x.v) {i:Nat} {n:BL} {f:List Version→List Version} (hf:∀ m,(∀ x ∈ m,vN x.v)→∀ x ∈ f m,vN x.v):∀ c ∈ b0B l i n f,∀ x ∈ ls c.l,vN x.v:=by
 intro c hc x hx
 unfold b0B at hc
 rcases oqe.1 hc with hc | hc
 ·exact h c (List.mem_of_mem_take hc) x hx
 ·rcases oqf.1 hc with rfl | hc
  ·exact hf _ (r0Y h i) x hx
  ·exact h c (List.mem_of_mem_drop hc) x hx
theorem d0U (l:List Column) (n:BL):L6 l n ≤ l.length:=k0A _ _
theorem o0l {r:Row} (h:c0W r) {n:BL} {t:Int} {v:Value} (hv:vN v):c0W (S8 r n t v).1:=by
 have hc:=V8 h
 unfold S8
 split
 ·exact a0A
 dsimp only
 split
 ·exact a0A
 ·refine V8 fun c hc2=>?_
  simp only [H1] at hc2
  refine p0b ?_ (fun m hm=>v0z hm hv) c hc2
  intro c hc3
  split at hc3
  ·exact hc c hc3
  ·rcases g0u (d0U _ _) hc3 with rfl | hc3
   ·intro x hx;simp at hx
   ·exact hc c hc3
theorem t0r {r:Row} (h:c0W r) (n:BL) (t:Int):c0W (a0T r n t):=by
 have hc:=V8 h
 unfold a0T
 dsimp only
 split
 ·exact hc
 split
 ·exact V8 fun c hc2=>hc c ((List.eraseIdx_sublist _ _).subset hc2)
 ·refine V8 fun c hc2=>?_
  simp only [H1] at hc2
  exact p0b hc (fun m hm x hx=>r0Y hc _ x (List.mem_filter.1 hx).1) c hc2
theorem m0H {r:Row} (h:c0W r) (n:BL):c0W (V0 r n):=by
 have hc:=V8 h
 unfold V0
 dsimp only
 split
 ·exact V8 hc
 ·exact V8 fun c hc2=>hc c ((List.eraseIdx_sublist _ _).subset hc2)
theorem F0Y {r:Row} (h:c0W r) {c:Change} (hc:vN c.v):c0W (W8 r c).1:=by
 unfold W8
 split
 ·exact o0l h hc
 split
 ·exact t0r h _ _
 split
 ·exact m0H h _
 split
 ·exact a0A
 dsimp only
 generalize (if (M4 r c.col).2 = true then (M4 r c.col).1 else ⟨2,none,9223372036854775808⟩:Value) = w
 by_cases hp:(N8 w c.v).2 = 0
 ·rw [if_pos hp]
  refine o0l h ?_
  unfold N8 at hp ⊢
  split
  ·intro _;exact y0O _ _
  ·rename_i h2;rw [if_neg h2] at hp;simp at hp
 ·rw [if_neg hp];exact a0A
theorem A0p:∀ {l:List Change} {r:Row},c0W r→(∀ c ∈ l,vN c.v)→c0W (W9 r l).1
 | [],r,h,_=>h
 | c::l,r,h,hl=>by
  simp only [W9]
  split
  ·exact A0p (F0Y h (hl c (by simp))) fun x hx=>hl x (by simp [hx])
  ·exact a0A
theorem y0q {r:Row} (h:c0W r) {l:List Change} (hl:∀ c ∈ l,vN c.v):c0W (apply r l).1:=by
 unfold apply
 split
 ·exact a0A
 cases l.find? fun c=>F0 c != 0 with
 | none=>exact A0p (V8 h) hl
 | some c=>exact a0A
theorem r0D {l:List Named} (h:l0i l) (n:BL):c0W (W7 l n).1:=by
 unfold W7
 split
 ·refine V8 ?_
  cases hg:l[tix l n]? with
  | none=>exact a0A
  | some y=>exact h y (List.mem_of_getElem? hg)
 ·exact a0A
theorem B0c {l:List Named} (h:l0i l) {n:BL} {r:Row} (hr:c0W r):l0i (f0k l n r).1:=by
 unfold f0k
 split
 ·exact h
 split
 ·dsimp only
  split
  ·exact fun x hx=>h x ((List.eraseIdx_sublist _ _).subset hx)
  ·exact h
 split
 ·intro x hx
  rcases List.mem_or_eq_of_mem_set hx with hx | rfl
  ·exact h x hx
  ·exact V8 hr
 split
 ·exact h
 ·intro x hx
  rcases g0u (d0e _ _) hx with rfl | hx
  ·exact V8 hr
  ·exact h x hx
theorem D0O {l:List Named} (h:l0i l) {o:Op} (ho:opN o):l0i (c0t l o).1:=by
 unfold c0t
 dsimp only
 split
 ·exact h
 split
 ·exact B0c h (y0q (r0D h _) ho)
 ·exact h
theorem H0N {l:List Named} (h:l0i l) {sp:Span} {o:Op} (ho:opN o):l0i (opT sp l o).2∧∀ x ∈ ls (opT sp l o).1.rows,c0W x.r:=by
 unfold opT
 split
 ·refine ⟨h, ?_⟩
  split
  ·intro x hx;simp at hx;subst hx;exact r0D h _
  ·intro x hx;simp [noA] at hx
 split
 ·exact ⟨D0O h ho,by intro x hx;simp [noA] at hx⟩
 ·refine ⟨h,fun x hx=>?_⟩
  simp only [a0d] at hx
  exact h x (range_mem.1 x hx)
theorem z0o:∀ m:Fin 20,FloatKind.nearest .f64 ((m.val:Int) - 9) < 2 ^ 64:=by decide +kernel
theorem m0s (n:Int) {x:Nat} (hx:x < 2 ^ 64):d0K n x < 2 ^ 64:=by
 unfold d0K
 simp only
 split
 ·omega
 split
 ·omega
 split
 ·omega
 split
 ·omega
 split
 ·omega
 split
 ·omega
 split
 ·have h1:=Int.emod_nonneg (m20 n) (show (20:Int) ≠ 0 by decide)
  have h2:=Int.emod_lt_of_pos (m20 n) (show (0:Int) < 20 by decide)
  have:=z0o ⟨(m20 n % 20).toNat,by omega⟩
  have e:(((m20 n % 20).toNat:Nat):Int) = m20 n % 20:=by omega
  simp only [e] at this
  exact this
 ·exact hx
theorem u0M {v:KV} (hx:v.x < 2 ^ 64):vN (b0O v):=by
 unfold b0O
 split
 ·intro e;simp at e
 ·intro _;exact m0s _ hx
theorem t0U {c:KC} (hx:c.v.x < 2 ^ 64):vN (a0h c).v:=by
 unfold a0h
 simp only
 split
 ·intro _;exact m0s _ hx
 split
 ·exact B0t
 split
 ·exact B0t
 split
 ·exact B0t
 ·exact u0M hx
theorem F0r {o:KO} (hl:∀ c ∈ ls o.l,c.v.x < 2 ^ 64):opN (kOp o):=by
 unfold kOp
 split
 ·intro c hc;simp at hc
 split
 ·intro c hc;simp at hc
 ·intro c hc
  simp only at hc
  split at hc
  ·simp at hc;subst hc;intro _;decide
  ·simp only [P0,u0W] at hc
   obtain ⟨x,hx1,rfl⟩:=List.mem_map.1 hc
   exact t0U (hl x (List.mem_of_mem_take hx1))
end Wm
