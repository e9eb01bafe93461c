/- A part of a proof over the abstract machine. No conditions. -/
import Derived.Test.YtiagcnfmgigllaaGreatT53
set_option linter.unusedSimpArgs false
set_option linter.unnecessarySimpa false
set_option linter.unusedVariables false
namespace Go.Proofs.YtiagcnfmgigllaaGreat
open Go Go.Ab Wm NumPlain
set_option maxRecDepth 10000
set_option maxHeartbeats 4000000
theorem c0O (A:Answer):(l5 A).length = 11:=rfl
theorem v0g {α:Type} {h:H} {size:Nat} {enc:α→List AS} {s:AS} {l:List α} (a:Sl h size enc s l) (k:Blk):Sl (h.new k) size enc s l:=a.keep (by simp) fun b hb=>p8 (by have:=a.lt hb;omega)
theorem o0T (l m:Option (List KO)) (hlk:∀ x ∈ ls l,u0o x∧KOn x) (hmk:∀ x ∈ ls m,u0o x∧KOn x) (h:H) :
  ∃ r,W K 4 [.one (sl 12 Y4 l),.one (sl 12 Y4 m)] h = some r∧Rets (fun v _=>v = .one (.bool true)) r:=by
 have hw:=r0D h
 obtain ⟨h2,s,sp,p,e2,w2,ep,po,k2,l2⟩:=r0w h
 obtain ⟨kn,hkn⟩:=Classical.skolem.1 s0f
 have hkn':∀ h,W K 15 [] h = some (.ret (.one (.bool true)) (kn h)):=fun h=>(hkn h).1
 have hla:∀ (u:TypeId) (h':H),P6 (sl 12 Y4 l) (some (.slice u)) h' = some (one (ii (ls l).length) h'):=fun u h'=>S8 ..
 have hlb:∀ (u:TypeId) (h':H),P6 (sl 12 Y4 m) (some (.slice u)) h' = some (one (ii (ls m).length) h'):=fun u h'=>S8 ..
 have hkoF:∀ x:KO,u0o x→∀ h,W K 10 [.agg (Y4 x)] h = some (.ret (.agg (j0c (kOp x))) h):=fun x hx h=>by
  obtain ⟨a1,a2,a3,a4,a5,a6,a7,⟨b1,b2,b3,b4⟩,a8⟩:=x
  exact F0H a1 a2 a3 a4 a5 a6 a7 b1 b2 b3 b4 a8 hx h
 obtain ⟨Z1,hZ1⟩:∃ Z,sl 12 Y4 l = Z:=⟨_,rfl⟩
 obtain ⟨Z2,hZ2⟩:∃ Z,sl 12 Y4 m = Z:=⟨_,rfl⟩
 rw [hZ1] at hla ⊢
 rw [hZ2] at hlb ⊢
 refine Rets.intro fun P hP=>?_
 refine J6 hp rfl rfl rfl Tryz.func4 rfl (by simp [Tryz.f4]) ?_
 simp only [Tryz.f4]
 refine hide ?_;intro Q1 hQ1
 repeat' (first
  | (replace hQ1:=hQ1;simp [A0e,hw,e2])
  | refine hQ1 _ _ _ ?_
  | refine dF (id:=20) [0,1,2,3,4,5,6,7,8,9,10,11,12,13,14] [(6,12),(8,12)] ?_)
 refine F5 hp ((ls l).take 15) (fun a r fr hh=>∃ st,(∃ p told,StAt hh s sp [p] 1 0∧ToldI p told∧told.length = a.length∧Sl hh 11 l5 st told∧∀ b,u4 st = some b→b ∉ fpS s sp [p])∧∃ j:Nat→AV,fr = ((.one Z1)::(.one Z2)::j 2::j 3::j 4::(.one (.ptr s 0 0))::(.one st)::(.one (ii a.length))::j 8::j 9::j 10::j 11::j 12::j 13::j 14::j 15::j 16::j 17::j 18::j 19::j 20::j 21::j 22::j 23::j 24::j 25::j 26::j 27::j 28::j 29::j 30::j 31::j 32::j 33::j 34::j 35::j 36::j 37::j 38::j 39::j 40::j 41::j 42::j 43::j 44::j 45::j 46::j 47::j 48::j 49::j 50::j 51::j 52::j 53::j 54::j 55::j 56::j 57::j 58::j 59::j 60::j 61::j 62::j 63::j 64::j 65::j 66::j 67::j 68::j 69::j 70::j 71::j 72::j 73::j 74::j 75::j 76::j 77::j 78::j 79::j 80::j 81::j 82::j 83::j 84::j 85::j 86::j 87::j 88::j 89::j 90::j 91::j 92::j 93::j 94::j 95::j 96::j 97::j 98::j 99::j 100::j 101::j 102::j 103::j 104::j 105::j 106::j 107::j 108::j 109::j 110::j 111::j 112::j 113::j 114::j 115::j 116::j 117::j 118::j 119::j 120::j 121::j 122::j 123::j 124::j 125::j 126::j 127::j 128::[])) ?_ ?_ _ _ ?_
 rotate_left 2
 ·exact ⟨.nilslc,⟨p,[],w2,⟨po,by rw [ep],by rw [ep];intro x hx;simp at hx,by simp,by rw [ep];simp,by simp⟩,rfl,.inl ⟨rfl,rfl⟩,by simp [u4]⟩,s9 (by simp)⟩
 ·rintro a x r fr hh hl15 ⟨st,⟨p,told,w,I,hta,hst,hso⟩,j,rfl⟩
  have ha15:a.length < 15:=by
   have:=congrArg List.length hl15
   simp at this;omega
  have hfull:ls l = a++x::(r++(ls l).drop 15):=by
   conv=>lhs;rw [← List.take_append_drop 15 (ls l),hl15]
   simp
  have hil:a.length < (ls l).length:=by rw [hfull];simp
  have hsoL:some (ls l) = l:=by rw [hfull];exact (S7 hfull).symm
  have hix:=J8 (P:=Tryz.prog) (enc:=Y4) (s:=12) (l:=ls l) (i:=a.length) Tryz.underlying22 (by simp) (by omega) hil
  rw [hsoL,hZ1] at hix
  have hrd:=I4 (enc:=Y4) (s:=12) (fun _=>rfl) a x (r++(ls l).drop 15) (o:=0) (n:=12) (by omega)
  rw [← hfull] at hrd
  have hxe:sub (Y4 x) 0 12 = some (Y4 x):=J2 rfl
  simp only [Nat.add_zero,hxe] at hrd
  have hxk:=hlk x (by rw [hfull];simp)
  have hko:=hkoF x hxk.1
  have hoi:=q0i x
  have hon:=D0j (o:=x) hxk.2.2
  generalize kOp x = O at *
  obtain ⟨ok,orow,ohi,⟨oh,ow,oc,⟨vk,vb,vn⟩⟩,ol,om⟩:=O
  simp only [j0c] at hko
  obtain ⟨h',p',e,ep',po',w',g'⟩:=B0f w I.one (a.length:Int) 1 ok orow ohi oh ow oc vk vb vn ol om hoi (by omega) (by omega) (fun y hy hyc=>by have:=I.lt y hy;omega)
  have I':=s0p I (by omega) hoi hon (by rw [hta];exact ep') po'
  obtain ⟨A,hA⟩:∃ A,(opT ⟨[],[]⟩ p.t.rows ⟨ok,orow,ohi,⟨oh,ow,oc,⟨vk,vb,vn⟩⟩,ol,om⟩).1 = A:=⟨_,rfl⟩
  rw [hA] at e I'
  have hol:∀ b,u4 st = some b→b < hh.next∧b ∉ fpS s sp [p']:=fun b hb=>by
   have h1:=hst.lt hb
   refine ⟨h1,fun hc=>?_⟩
   rcases g'.own b hc with h | h
   ·exact hso b hb h
   ·omega
  have hst':Sl (h'.new ⟨0,[11],true,l5 A⟩) 11 l5 st told:=v0g (hst.keep g'.next fun b hb=>g'.keep b (hol b hb).1 (hso b hb)) _
  have hCl:(l5 A).length = 11:=rfl
  have hCs:sub (l5 A) 0 11 = some (l5 A):=J2 hCl
  obtain ⟨st2,h3,e3,⟨b3,v3,z3,hs3,ar3⟩,k1,k2,k3⟩:=P0 (P:=Tryz.prog) (t:=56) Tryz.underlying56 (by simp) (by simp) Tryz.bytes50 (by omega) c0O (a:=.slc h'.next 0 0 1 11 none) (m:=[A]) hst' rfl (by simp [C3,cat,hCs]) (by simp) (by simp only [List.length_cons,List.length_nil,Nat.zero_add,L4];omega)
  simp only [A0] at k1 k2 k3
  have w3:StAt h3 s sp [p'] 1 0:=(w'.new ⟨0,[11],true,l5 A⟩).keep (by simp;omega) fun b hb=>k2 b (by have:=w'.fp_lt b hb;omega) fun e=>(hol b e).2 hb
  have hso3:∀ b,u4 st2 = some b→b ∉ fpS s sp [p']:=fun b hb hc=>by
   rcases k3 b hb with h | h
   ·exact (hol b h).2 hc
   ·have:=w'.fp_lt b hc;omega
  have d1:decide ((a.length:Int) < (ls l).length) = true:=by simp;omega
  have d2:decide ((a.length:Int) < 15) = true:=by simp;omega
  have d3:(a.length:Int) < 15:=by omega
  have hw1:IntKind.i64.wrap ((a.length:Int) + 1) = (a.length:Int) + 1:=F0 (by omega)
  have hsl3:Sl h3 11 l5 st2 (told++[A]):=.inr ⟨b3,v3,z3,hs3,ar3⟩
  clear hA
  generalize l5 A = CA at e e3 hCl hCs
  generalize Y4 x = XO at *
  generalize cat Y4 (ls l) = CK at *
  generalize sl 6 l6 ol = ZL at *
  first | (refine hide ?_;intro Q2 hQ2) | have hQ2:=True.intro
  repeat' (first
   | (replace hQ2:=hQ2;simp [hla,hil,d3,hix,hrd,hko,hw1,e,hCl,e3])
   | (refine hQ2 _ _ _ ?_;clear hQ2 Q2;first | simp only [] | simp [hla,hil,d1,d2,d3,hix,hrd,hko,hw1,e,hCl,hCs,e3] | skip)
   | (refine D3 (by assumption) ?_;(try clear hQ2);first | simp only [] | simp [hla,hil,d1,d2,d3,hix,hrd,hko,hw1,e,hCl,hCs,e3] | skip)
   | ((fail_if_success replace hQ2:=hQ2);(first | refine hide ?_ | refine u6 ?_ | refine u7 ?_);intro Q2 hQ2)
   | refine dF (id:=20) [0,1,2,3,4,5,6,7,8,9,10,11,12,13,14] [(6,12),(8,12)] ?_)
  exact ⟨st2,⟨p',told++[A],w3,I',by simp [hta],hsl3,hso3⟩,s9 (by simp)⟩
 ·rintro fr hh ⟨st,⟨p,told,w,I,hta,hst,hso⟩,j,rfl⟩
  obtain ⟨N,hN⟩:∃ N,((ls l).take 15).length = N:=⟨_,rfl⟩
  rw [hN] at hta ⊢
  have hN2:N = min 15 (ls l).length:=by rw [← hN,List.length_take]
  obtain ⟨h5,e5,w5,g5⟩:=j0N w I.one.sp I.gen I.one.rows I.one.cache 9 9
  obtain ⟨p',hp'⟩:∃ q:Pt,q = ⟨p.d,{ p.t with fr:=true },p.fp⟩:=⟨_,rfl⟩
  rw [← hp'] at w5 g5
  have pt':p'.t = { p.t with fr:=true }:=by rw [hp']
  have hTB0:b0J ⟨[],[]⟩ 1 p.t.rows p.t.cache ≠ []:=fun e=>by
   have:=congrArg List.length e
   simp [b0J,J9,D5,d0] at this
  have hsp':p'.t.span = ⟨[],[]⟩:=by rw [pt'];exact I.one.sp
  have hok':TblOk p'.t.rows:=by rw [pt'];exact I.one.rows
  have hcc':CchOk p'.t.cache:=by rw [pt'];exact I.one.cache
  have hTBe:b0J ⟨[],[]⟩ 1 p.t.rows p.t.cache = b0J ⟨[],[]⟩ 1 p'.t.rows p'.t.cache:=by rw [pt']
  obtain ⟨TB,hTB⟩:∃ TB,b0J ⟨[],[]⟩ 1 p.t.rows p.t.cache = TB:=⟨_,rfl⟩
  rw [hTB] at e5 hTB0 hTBe
  have hst5:Sl h5 11 l5 st told:=hst.keep g5.next fun b hb=>g5.keep b (hst.lt hb) (hso b hb)
  obtain ⟨CF,hCF⟩:∃ C,l5 (stA TB) = C:=⟨_,rfl⟩
  have hFl:CF.length = 11:=by rw [← hCF];rfl
  have hFs:sub CF 0 11 = some CF:=J2 hFl
  have hF0:sub CF 0 1 = some [ii 0]:=by rw [← hCF];rfl
  have hF9:sub CF 10 1 = some [bs (some TB)]:=by rw [← hCF];rfl
  rw [hCF] at e5
  have w6:=w5.new ⟨0,[11],true,CF⟩
  have hst6:=v0g hst5 ⟨0,[11],true,CF⟩
  have f6:(h5.new ⟨0,[11],true,CF⟩).f h5.next = some ⟨0,[11],true,CF⟩:=by simp
  have eL:=w0Y w6 (by simp)
  have eF:=v0u w6 (by simp)
  have eR:=w0e w6 (by simp) (fun q hq=>by simp at hq;subst hq;exact hok')
  have sL:b0o false ([p'].map (·.t)) = []:=by simp [b0o,pt']
  have sF:b0o true ([p'].map (·.t)) = [a0R p'.t]:=by simp [b0o,pt']
  have sR:b0S ([p'].map (·.t)) = []:=by simp [b0S,pt']
  rw [sL] at eL
  rw [sF] at eF
  rw [sR] at eR
  simp only [q0u,r0L,Wm.sl_none] at eL eF eR
  have hlF:∀ (u:TypeId) (h':H),P6 (sl 4 M6 (some [a0R p'.t])) (some (.slice u)) h' = some (one (ii 1) h'):=fun u h'=>S8 ..
  have hlB:∀ (u:TypeId) (h':H),P6 (bs (some TB)) (some (.slice u)) h' = some (one (ii TB.length) h'):=fun u h'=>by rw [O9];simp [P6,P5]
  have hTl:¬ TB.length = 0:=fun e=>hTB0 (List.eq_nil_of_length_eq_zero e)
  have hTi:¬ (TB.length:Int) = 0:=by omega
  have hTb:((TB.length:Int) == 0) = false:=by simp;exact hTB0
  generalize sl 4 M6 (some [a0R p'.t]) = ZF at *
  obtain ⟨h6,hh6⟩:∃ h6,h5.new ⟨0,[11],true,CF⟩ = h6:=⟨_,rfl⟩
  have n6:h6.next = h5.next + 1:=by rw [← hh6];simp
  rw [hh6] at w6 hst6 f6 eL eF eR
  have hfind:∀ n,b0Q n none ([]++p'::[]) = some p':=fun n=>by simp [b0Q,hsp',d0z]
  have hcl:p'.t.cache = p.t.cache:=by rw [pt']
  have hpg:p'.t.gen = 1:=by rw [pt'];exact I.gen
  have hpf:p'.t.fr = true:=by rw [pt']
  have hconv:=a0E (some TB)
  simp only [I6] at hconv
  have e1:(¬ N < (ls l).length∧True) ∨ (N < (ls l).length∧¬ (N:Int) < 15):=by
   by_cases hc:(ls l).length ≤ 15
   ·left;exact ⟨by omega,trivial⟩
   ·right;omega
  rcases e1 with ⟨d1,d2⟩ | ⟨d1,d2⟩
  all_goals
   first | (refine hide ?_;intro Q3 hQ3) | have hQ3:=True.intro
   repeat' (first
    | (replace hQ3:=hQ3;simp [-lay,O6,O5,V6,K6,hla,d1,d2,e5,hh6,f6,hFl,hF0,hF9,hlB,hTb,eL,eF,hlF,eR])
    | (refine hQ3 _ _ _ ?_;clear hQ3 Q3;first | simp only [] | simp [-lay,O6,O5,V6,K6,hla,d1,d2,e5,hh6,f6,hFl,hFs,hF0,hF9,hlB,hTl,hTi,hTb,hTB0,eL,eF,hlF,eR] | skip)
    | (refine D3 (by assumption) ?_;(try clear hQ3);first | simp only [] | simp [-lay,O6,O5,V6,K6,hla,d1,d2,e5,hh6,f6,hFl,hFs,hF0,hF9,hlB,hTl,hTi,hTb,hTB0,eL,eF,hlF,eR] | skip)
    | ((fail_if_success replace hQ3:=hQ3);(first | refine hide ?_ | refine u6 ?_ | refine u7 ?_);intro Q3 hQ3)
    | refine dF (id:=20) [0,1,2,3,4,5,6,7,8,9,10,11,12,13,14] [(6,12),(8,12)] ?_)
   refine F5 hp ((ls m).take 10) (fun a r fr h7=>Kept h6 h7∧∃ j:Nat→AV,fr = ((.one Z1)::(.one Z2)::j 2::j 3::j 4::(.one (.ptr s 0 0))::(.one st)::j 7::(.one (.ptr h5.next 0 0))::(.one (ii a.length))::j 10::j 11::j 12::j 13::j 14::j 15::j 16::j 17::j 18::j 19::j 20::j 21::j 22::j 23::j 24::j 25::j 26::j 27::j 28::j 29::j 30::j 31::j 32::j 33::j 34::j 35::j 36::j 37::j 38::j 39::j 40::j 41::j 42::j 43::j 44::j 45::j 46::j 47::j 48::j 49::j 50::j 51::j 52::j 53::j 54::j 55::j 56::j 57::j 58::j 59::j 60::j 61::j 62::j 63::j 64::j 65::j 66::j 67::j 68::j 69::j 70::j 71::j 72::j 73::j 74::j 75::j 76::j 77::j 78::j 79::j 80::j 81::j 82::j 83::j 84::j 85::j 86::j 87::j 88::j 89::j 90::j 91::j 92::j 93::j 94::j 95::j 96::j 97::j 98::j 99::j 100::j 101::j 102::j 103::j 104::j 105::j 106::j 107::j 108::j 109::j 110::j 111::j 112::j 113::j 114::j 115::j 116::j 117::j 118::j 119::j 120::j 121::j 122::j 123::j 124::j 125::j 126::j 127::j 128::[])) ?_ ?_ _ _ ?_
   rotate_left 2
   ·exact ⟨a0V _,s9 (by simp)⟩
   ·rintro a x r fr h7 hm10 ⟨kk,j,rfl⟩
    have ha10:a.length < 10:=by
     have:=congrArg List.length hm10
     simp at this;omega
    have hfull:ls m = a++x::(r++(ls m).drop 10):=by
     conv=>lhs;rw [← List.take_append_drop 10 (ls m),hm10]
     simp
    have hil:a.length < (ls m).length:=by rw [hfull];simp
    have hsoL:some (ls m) = m:=by rw [hfull];exact (S7 hfull).symm
    have hix:=J8 (P:=Tryz.prog) (enc:=Y4) (s:=12) (l:=ls m) (i:=a.length) Tryz.underlying22 (by simp) (by omega) hil
    rw [hsoL,hZ2] at hix
    have hrd:=I4 (enc:=Y4) (s:=12) (fun _=>rfl) a x (r++(ls m).drop 10) (o:=0) (n:=12) (by omega)
    rw [← hfull] at hrd
    have hxe:sub (Y4 x) 0 12 = some (Y4 x):=J2 rfl
    simp only [Nat.add_zero,hxe] at hrd
    have hko:=hkoF x (hmk x (by rw [hfull];simp)).1
    have hoi:=q0i x
    generalize kOp x = O at *
    obtain ⟨ok,orow,ohi,⟨oh,ow,oc,⟨vk,vb,vn⟩⟩,ol,om⟩:=O
    simp only [j0c] at hko
    have w7:StAt h7 s sp ([]++p'::[]) 1 0:=w6.kept kk
    obtain ⟨h',e,kk'⟩:=x0M w7 (by simp) (100 + (a.length:Int)) 5 ok orow ohi oh ow oc vk vb vn ol om hoi.ok (by have:=hoi.n;simp only at this;omega) (hfind _) hpf hcc' (k0v (by omega) fun y hy hyc=>by rw [hcl] at hy;have:=I.lt y hy;omega) (by omega) (by omega)
    have hA4:l5 (noA 4) = [ii 4,.nilslc,.str [],.str [],ii 0,ii 0,ii 0,ii 0,ii 0,.str [],.nilslc]:=rfl
    rw [hA4] at e
    have d1:decide ((a.length:Int) < (ls m).length) = true:=by simp;omega
    have d2:decide ((a.length:Int) < 10) = true:=by simp;omega
    have d3:(a.length:Int) < 10:=by omega
    have hw1:IntKind.i64.wrap ((a.length:Int) + 1) = (a.length:Int) + 1:=F0 (by omega)
    have hw2:IntKind.i64.wrap (100 + (a.length:Int)) = 100 + (a.length:Int):=wrap_i64 (by omega) (by omega)
    generalize Y4 x = XO at *
    generalize cat Y4 (ls m) = CK at *
    generalize sl 6 l6 ol = ZL at *
    first | (refine hide ?_;intro Q4 hQ4) | have hQ4:=True.intro
    repeat' (first
     | (replace hQ4:=hQ4;simp [hlb,hil,d3,hix,hrd,hko,hw1,hw2,e])
     | (refine hQ4 _ _ _ ?_;clear hQ4 Q4;first | simp only [] | simp [c0D,hlb,hil,d1,d2,d3,hix,hrd,hko,hw1,hw2,e] | skip)
     | (refine D3 (by assumption) ?_;(try clear hQ4);first | simp only [] | simp [c0D,hlb,hil,d1,d2,d3,hix,hrd,hko,hw1,hw2,e] | skip)
     | ((fail_if_success replace hQ4:=hQ4);(first | refine hide ?_ | refine u6 ?_ | refine u7 ?_);intro Q4 hQ4)
     | refine dF (id:=20) [0,1,2,3,4,5,6,7,8,9,10,11,12,13,14] [(6,12),(8,12)] ?_)
    exact ⟨⟨by have:=kk.1;have:=kk'.1;omega,fun b hb=>by rw [kk'.2 b (by have:=kk.1;omega)];exact kk.2 b hb⟩,s9 (by simp)⟩
   ·rintro fr h7 ⟨kk,j,rfl⟩
    obtain ⟨N2,hN2'⟩:∃ N,((ls m).take 10).length = N:=⟨_,rfl⟩
    rw [hN2']
    have hN3:N2 = min 10 (ls m).length:=by rw [← hN2',List.length_take]
    have e1:(¬ N2 < (ls m).length∧True) ∨ (N2 < (ls m).length∧¬ (N2:Int) < 10):=by
     by_cases hc:(ls m).length ≤ 10
     ·left;exact ⟨by omega,trivial⟩
     ·right;omega
    have hlt:∀ (u:TypeId) (h':H),P6 st (some (.slice u)) h' = some (one (ii told.length) h'):=fun u h'=>P3 h' u (hst.sees c0O) (by omega) (t9 c0O told)
    rcases e1 with ⟨d1,d2⟩ | ⟨d1,d2⟩
    all_goals
     first | (refine hide ?_;intro Q5 hQ5) | have hQ5:=True.intro
     repeat' (first
      | (replace hQ5:=hQ5;simp [hlb,d1,d2])
      | (refine hQ5 _ _ _ ?_;clear hQ5 Q5;first | simp only [] | simp [hlb,d1,d2] | skip)
      | (refine D3 (by assumption) ?_;(try clear hQ5);first | simp only [] | simp [hlb,d1,d2] | skip)
      | ((fail_if_success replace hQ5:=hQ5);(first | refine hide ?_ | refine u6 ?_ | refine u7 ?_);intro Q5 hQ5)
      | refine dF (id:=20) [0,1,2,3,4,5,6,7,8,9,10,11,12,13,14] [(6,12),(8,12)] ?_)
     refine F5 hp told (fun a r fr h8=>Kept h6 h8∧∃ j:Nat→AV,fr = ((.one Z1)::j 1::j 2::j 3::j 4::(.one (.ptr s 0 0))::(.one st)::j 7::(.one (.ptr h5.next 0 0))::j 9::(.one (ii a.length))::j 11::j 12::j 13::j 14::j 15::j 16::j 17::j 18::j 19::j 20::j 21::j 22::j 23::j 24::j 25::j 26::j 27::j 28::j 29::j 30::j 31::j 32::j 33::j 34::j 35::j 36::j 37::j 38::j 39::j 40::j 41::j 42::j 43::j 44::j 45::j 46::j 47::j 48::j 49::j 50::j 51::j 52::j 53::j 54::j 55::j 56::j 57::j 58::j 59::j 60::j 61::j 62::j 63::j 64::j 65::j 66::j 67::j 68::j 69::j 70::j 71::j 72::j 73::j 74::j 75::j 76::j 77::j 78::j 79::j 80::j 81::j 82::j 83::j 84::j 85::j 86::j 87::j 88::j 89::j 90::j 91::j 92::j 93::j 94::j 95::j 96::j 97::j 98::j 99::j 100::j 101::j 102::j 103::j 104::j 105::j 106::j 107::j 108::j 109::j 110::j 111::j 112::j 113::j 114::j 115::j 116::j 117::j 118::j 119::j 120::j 121::j 122::j 123::j 124::j 125::j 126::j 127::j 128::[])) ?_ ?_ _ _ ?_
     rotate_left 2
     ·exact ⟨kk,s9 (by simp)⟩
     ·rintro a y r fr h8 htl ⟨kk,j,rfl⟩
      have hat:a.length < told.length:=by rw [htl];simp
      have hye:told[a.length] = y:=by simp only [htl];simp
      obtain ⟨hyr,hyl⟩:=I.rd y (by rw [htl];simp)
      have hil:a.length < (ls l).length:=by omega
      obtain ⟨x,hx⟩:∃ x,(ls l)[a.length] = x:=⟨_,rfl⟩
      have hxm:x ∈ ls l:=by rw [← hx];exact List.getElem_mem _
      have hsoL:some (ls l) = l:=by
       cases l with
       | none=>simp at hil
       | some l=>rfl
      have hix:=J8 (P:=Tryz.prog) (enc:=Y4) (s:=12) (l:=ls l) (i:=a.length) Tryz.underlying22 (by simp) (by omega) hil
      rw [hsoL,hZ1] at hix
      have hrd:=I4 (enc:=Y4) (s:=12) (fun _=>rfl) ((ls l).take a.length) x ((ls l).drop (a.length + 1)) (o:=0) (n:=12) (by omega)
      rw [← hx,← b0F hil,List.length_take,Nat.min_eq_left (by omega)] at hrd
      have hxe:sub (Y4 (ls l)[a.length]) 0 12 = some (Y4 (ls l)[a.length]):=J2 rfl
      simp only [Nat.add_zero,hxe] at hrd
      rw [hx] at hrd
      have hko:=hkoF x (hlk x hxm).1
      have hoi:=q0i x
      generalize kOp x = O at *
      obtain ⟨ok,orow,ohi,⟨oh,ow,oc,⟨vk,vb,vn⟩⟩,ol,om⟩:=O
      simp only [j0c] at hko
      have w7:StAt h8 s sp ([]++p'::[]) 1 0:=w6.kept kk
      have hhas:=I.has a.length hat
      rw [hye] at hhas
      obtain ⟨h',e,kk'⟩:=u0e w7 (by simp) (a.length:Int) 1 ok orow ohi oh ow oc vk vb vn ol om hoi.ok (by have:=hoi.n;simp only at this;omega) (hfind _) hcc' hyr (by omega) (p0q hcc' (by omega) (by rw [hcl];exact hhas))
      have hsm:=t0S hyr
      have ksl:∀ hx:H,Kept h6 hx→I5 hx (atS 11 st a.length) 11 = some (l5 y):=fun hx hk=>by
       have h1:=(hst6.keep hk.1 fun b hb=>hk.2 b (hst6.lt hb)).sees c0O
       rw [X9 h1 (by omega) (t9 c0O told) hat,c0r c0O _ hat,hye]
      have kk8:Kept h6 h':=⟨by have:=kk.1;have:=kk'.1;omega,fun b hb=>by rw [kk'.2 b (by have:=kk.1;omega)];exact kk.2 b hb⟩
      have r1:=ksl h8 kk
      have r2:=ksl h' kk8
      have hixT:U0 Tryz.prog 56 st a.length = some (atS 11 st a.length):=V9 Tryz.underlying56 (by simp) (hst6.sees c0O) (by omega) (t9 c0O told) hat
      have hw1:IntKind.i64.wrap ((a.length:Int) + 1) = (a.length:Int) + 1:=F0 (by omega)
      have hYl:(l5 y).length = 11:=rfl
      have hl2:(a++[y]).length = a.length + 1:=by simp
      generalize l5 (l0g y) = C1 at *
      generalize l5 y = C2 at *
      generalize Y4 x = XO at *
      generalize cat Y4 (ls l) = CK at *
      generalize sl 6 l6 ol = ZL at *
      generalize atS 11 st a.length = AT at *
      generalize hal:a.length = al at *
      first | (refine hide ?_;intro Q6 hQ6) | have hQ6:=True.intro
      repeat' (first
       | (replace hQ6:=hQ6;simp [hlt,hat,hix,hrd,hko,e,hixT,r1,r2,hsm,hw1])
       | (refine hQ6 _ _ _ ?_;clear hQ6 Q6;first | simp only [] | simp [hlt,hat,hix,hrd,hko,e,hixT,r1,r2,hsm,hw1] | skip)
       | (refine D3 (by assumption) ?_;(try clear hQ6);first | simp only [] | simp [hlt,hat,hix,hrd,hko,e,hixT,r1,r2,hsm,hw1] | skip)
       | ((fail_if_success replace hQ6:=hQ6);(first | refine hide ?_ | refine u6 ?_ | refine u7 ?_);intro Q6 hQ6)
       | refine dF (id:=20) [0,1,2,3,4,5,6,7,8,9,10,11,12,13,14] [(6,12),(8,12)] ?_)
      exact ⟨kk8,s9 (by simp [hal])⟩
     ·rintro fr h8 ⟨kk,j,rfl⟩
      have w8:StAt h8 s sp [p'] 1 0:=w6.kept kk
      obtain ⟨h9,e9,w9,g9⟩:=j0N w8 hsp' hpg hok' hcc' 9 10
      rw [← hTBe,hCF] at e9
      have f9:h9.f h5.next = some ⟨0,[11],true,CF⟩:=by
       have hnot:h5.next ∉ fpS s sp [p']:=fun hc=>by have:=w5.fp_lt _ hc;omega
       rw [g9.keep _ (by have:=kk.1;omega) hnot,kk.2 _ (by omega)];exact f6
      have m1:¬ h5.next = h9.next:=by have:=kk.1;have:=g9.next;omega
      first | (refine hide ?_;intro Q7 hQ7) | have hQ7:=True.intro
      repeat' (first
       | (replace hQ7:=hQ7;simp [-lay,O6,O5,V6,K6,L8,hlt,e9,hFl,hF0,hF9,f9,m1,hconv,hkn'])
       | (refine hQ7 _ _ _ ?_;clear hQ7 Q7;first | simp only [] | simp [-lay,O6,O5,V6,K6,L8,hlt,e9,hFl,hFs,hF0,hF9,f9,m1,hconv,hkn'] | skip)
       | (refine D3 (by assumption) ?_;(try clear hQ7);first | simp only [] | simp [-lay] | skip)
       | ((fail_if_success replace hQ7:=hQ7);(first | refine hide ?_ | refine u6 ?_ | refine u7 ?_);intro Q7 hQ7)
       | refine dF (id:=20) [0,1,2,3,4,5,6,7,8,9,10,11,12,13,14] [(6,12),(8,12)] ?_)
      all_goals exact hP _ _ rfl
end Go.Proofs.YtiagcnfmgigllaaGreat
