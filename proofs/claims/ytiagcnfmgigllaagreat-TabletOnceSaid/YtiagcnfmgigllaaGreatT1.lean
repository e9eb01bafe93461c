/- A part of a proof over the abstract machine. No conditions. -/
import Derived.Test.YtiagcnfmgigllaaGreatC5s
import Derived.Test.YtiagcnfmgigllaaGreatAb5
set_option linter.all false
namespace Go.Proofs.YtiagcnfmgigllaaGreat
open Go Go.Ab Wm NumPlain Go.Proofs.Tryz
set_option maxRecDepth 10000
set_option maxHeartbeats 4000000
theorem s0Z (a b:BL) (h:H):W K 64 [.one (.str a),.one (.str b)] h = some (.ret (.one (ii (a0j a b))) h):=q0N rfl (Rw.cmpS_c a b h) rfl
theorem v0O (x:Named) (n:BL) (h:H):W K 179 [.agg (g9 x),.one (.str n)] h = some (.ret (.one (ii (a0j x.name n))) h):=by
 obtain ⟨xn,xr⟩:=x
 have hc:=s0Z xn n
 simp only [g9]
 refine zzP func179 rfl ?_
 simp only [f179]
 intro Yb Q1 Y1
 repeat' (first
  | (replace Y1:=Y1;simp [hc,A7,A0,z9,c7,u9,Yb])
  | refine Y1 _ _ _ ?_)
theorem C0b {h:H} {s:AS} {l:List Named} (hs:Sees h 2 s (cat g9 l)) (g:Nat) (tgt:AV) (c:Named->Int) (hg:∀ x h,W K g [.agg (g9 x),tgt] h = some (.ret (.one (ii (c x))) h)) (k:Nat) (hk:k <= l.length) (h1:∀ i (hi:i < l.length),i < k ↔ c l[i] < 0) (hl:l.length < 1000000) :
  W K 178 [.one s,tgt,.one (.fn g [] [])] h = some (.ret (.tup [(false,[ii k]),(false,[.bool (match l[k]? with | some x=>c x == 0 | none=>false)])]) h):=by
 have hcl:=A8 C4 l
 have hla:∀ (u:TypeId) (h':H),V9 s (some (.slice u)) h' = some (one (ii l.length) h'):=fun u h'=>U4 h' u hs (by omega) hcl
 have hix:∀ i,i < l.length->U7 prog 48 s i = some (atS 2 s i):=fun i hi=>a0b underlying48 (by simp) hs (by omega) hcl hi
 have hrd:∀ i (hi:i < l.length),K8 h (atS 2 s i) 2 = some (g9 l[i]):=fun i hi=>by rw [a0z hs (by omega) hcl hi,d0F C4 l hi]
 refine zzD func178 rfl ?_
 simp only [f178]
 intro Q2 Y2
 repeat' (first
  | (replace Y2:=Y2;simp [hla])
  | refine Y2 _ _ _ ?_)
 refine b0x hp (fun m fr hh=>hh = h/\∃ (i u:Nat),i <= k/\k <= u/\u <= l.length/\m = u - i/\∃ j:Nat->AV,fr = ((.one s)::(tgt)::(.one (.fn g [] []))::j 3::j 4::j 5::j 6::j 7::(.one (ii l.length))::(.one (ii i))::(.one (ii u))::j 11::j 12::j 13::j 14::j 15::j 16::j 17::j 18::j 19::j 20::j 21::j 22::j 23::j 24::j 25::j 26::j 27::j 28::j 29::j 30::j 31::j 32::j 33::j 34::j 35::j 36::j 37::j 38::j 39::j 40::j 41::j 42::j 43::j 44::j 45::j 46::j 47::j 48::[])) ?_ l.length _ _ ⟨rfl,0,l.length,by omega,hk,by omega,by omega,y0 rfl⟩
 rintro m fr hh ⟨rfl,i,u,q1,q2,q3,rfl,j,rfl⟩
 by_cases hij:i < u
 ·have d1:decide ((i:Int) < u) = true:=by simp;omega
  have hm:(i + u) / 2 < l.length:=by omega
  have w1:IntKind.i64.wrap ((i:Int) + u) = (i:Int) + u:=wrap_i64 (by omega) (by omega)
  have w2:IntKind.u64.wrap ((i:Int) + u) = (i:Int) + u:=c0M (by omega) (by omega)
  have w3:a0Y .shr .u64 ((i:Int) + u) 1 = some (.int .u64 (((i + u) / 2:Nat):Int)):=by
   simp only [a0Y]
   rw [if_neg (by omega)]
   have e:(2:Int) ^ min (1:Int).toNat IntKind.u64.bits = 2:=rfl
   rw [e,Int.fdiv_eq_ediv_of_nonneg _ (by omega)]
   simp
  have w4:IntKind.i64.wrap (((i + u) / 2:Nat):Int) = (((i + u) / 2:Nat):Int):=wrap_i64 (by omega) (by omega)
  have w5:IntKind.i64.wrap ((((i + u) / 2:Nat):Int) + 1) = (((i + u) / 2:Nat):Int) + 1:=wrap_i64 (by omega) (by omega)
  have x1:=hix _ hm
  have x2:=hrd _ hm
  have x3:=h1 _ hm
  generalize hM:(i + u) / 2 = M at *
  generalize hX:l[M] = X at *
  have x4:=hg X
  by_cases hc:c X < 0
  ·have d2:decide (c X < 0) = true:=by simp [hc]
   have hMk:=x3.2 hc
   first | (refine s9 ?_;intro Q3 Y3) | have Y3:=oqk
   repeat' (first
    | (replace Y3:=Y3;simp [hij,w1,w2,w3,w4,w5,x1,x2,x4,hc,B6])
    | (refine Y3 _ _ _ ?_;clear Y3 Q3;first | simp only [] | simp [d1,hij,w1,w2,w3,w4,w5,x1,x2,x4,d2,hc,B6] | skip)
    | (refine F6 (by assumption) ?_;(try clear Y3);first | simp only [] | simp [d1,hij,w1,w2,w3,w4,w5,x1,x2,x4,d2,hc,B6] | skip)
    | ((fail_if_success replace Y3:=Y3);(first | refine s9 ?_ | refine A1 ?_ | refine A4 ?_);intro Q3 Y3))
   all_goals exact ⟨u - (M + 1),by omega,trivial,M + 1,u,by omega,q2,q3,rfl,y0 (by simp)⟩
  ·have d2:decide (c X < 0) = false:=by simp [hc]
   have hMk:¬ M < k:=fun h=>hc (x3.1 h)
   first | (refine s9 ?_;intro Q4 Y4) | have Y4:=oqk
   repeat' (first
    | (replace Y4:=Y4;simp [hij,w1,w2,w3,w4,x1,x2,x4,hc,B6])
    | (refine Y4 _ _ _ ?_;clear Y4 Q4;first | simp only [] | simp [d1,hij,w1,w2,w3,w4,w5,x1,x2,x4,d2,hc,B6] | skip)
    | (refine F6 (by assumption) ?_;(try clear Y4);first | simp only [] | simp [d1,hij,w1,w2,w3,w4,w5,x1,x2,x4,d2,hc,B6] | skip)
    | ((fail_if_success replace Y4:=Y4);(first | refine s9 ?_ | refine A1 ?_ | refine A4 ?_);intro Q4 Y4))
   all_goals exact ⟨M - i,by omega,trivial,i,M,q1,by omega,by omega,rfl,y0 (by simp)⟩
 ·have d1:decide ((i:Int) < u) = false:=by simp;omega
  have hik:i = k:=by omega
  have hjk:u = k:=by omega
  subst hjk hik
  by_cases hkl:i < l.length
  ·have d2:decide ((i:Int) < l.length) = true:=by simp;omega
   have x1:=hix _ hkl
   have x2:=hrd _ hkl
   have x5:l[i]? = some l[i]:=List.getElem?_eq_getElem hkl
   generalize hX:l[i] = X at *
   have x4:=hg X
   first | (refine s9 ?_;intro Q5 Y5) | have Y5:=oqk
   repeat' (first
    | (replace Y5:=Y5;simp [hkl,x1,x2,x4])
    | (refine Y5 _ _ _ ?_;clear Y5 Q5;first | simp only [] | simp [d1,hij,d2,hkl,x1,x2,x4,x5] | skip)
    | (refine F6 (by assumption) ?_;(try clear Y5);first | simp only [] | simp [hkl] | skip)
    | ((fail_if_success replace Y5:=Y5);(first | refine s9 ?_ | refine A1 ?_ | refine A4 ?_);intro Q5 Y5))
   all_goals first | rfl | rw [hX]
  ·have d2:decide ((i:Int) < l.length) = false:=by simp;omega
   have x5:l[i]? = none:=List.getElem?_eq_none (by omega)
   first | (refine s9 ?_;intro Q6 Y6) | have Y6:=oqk
   repeat' (first
    | (replace Y6:=Y6;simp [hkl])
    | (refine Y6 _ _ _ ?_;clear Y6 Q6;first | simp only [] | simp [d1,hij,d2,hkl,x5] | skip)
    | (refine F6 (by assumption) ?_;(try clear Y6);first | simp only [] | simp [hkl] | skip)
    | ((fail_if_success replace Y6:=Y6);(first | refine s9 ?_ | refine A1 ?_ | refine A4 ?_);intro Q6 Y6))
theorem i0e {h:H} {p:Nat} {l:List Named} {q:Option Nat} (w:Bx h p 2 g9 l q) (hs:J5 f0A l = true) (hl:l.length < 1000000) (n:BL):W K 135 [.one (.ptr p 0 0),.one (.str n)] h = some (.ret (.tup [(false,[ii (tix l n)]),(false,[.bool (tat l n)])]) h):=by
 obtain ⟨w1,s,w2,w3,w4,w5⟩:=w
 have hb:=C0b (h:=h) (s:=s) (l:=l) (w3.sees C4) 179 (.one (.str n)) (fun c=>a0j c.name n) (fun x h=>v0O x n h) (tix l n) (g0P _ _) (fun i hi=>o0s hs n i hi) hl
 have he:(match l[tix l n]? with | some x=>a0j x.name n == 0 | none=>false) = tat l n:=by
  unfold tat;generalize l[tix l n]? = q;cases q <;> simp [o0a]
 rw [he] at hb
 generalize tat l n = T at *
 generalize tix l n = I at *
 refine zzD func135 rfl ?_
 simp only [f135]
 intro Q7 Y7
 repeat' (first
  | (replace Y7:=Y7;simp [w2,hb])
  | refine Y7 _ _ _ ?_)
theorem y0X (x:Named):v9 false (g9 x) = true:=by simp [g9,v9,c7]
theorem i0f {h:H} {s:AS} {l:List Named} (hs:Sees h 2 s (cat g9 l)) (hsl:∀ b,z7 s = some b->b < h.next) (hl:l.length < 1000000) (hr:∀ x ∈ l,(ls x.r).length < 1000000):∃ s' h',W K 136 [.one s] h = some (.ret (.one s') h')/\Sl h' 2 g9 s' (l.map cpN)/\(s' = .nilslc \/ l ≠ [])/\(∀ b,z7 s' = some b->h.next <= b)/\Kept h h':=by
 have hcl:=A8 C4 l
 have hla:∀ (u:TypeId) (h':H),V9 s (some (.slice u)) h' = some (one (ii l.length) h'):=fun u h'=>U4 h' u hs (by omega) hcl
 have key:∃ r,W K 136 [.one s] h = some r/\∃ s' h',r = .ret (.one s') h'/\Sl h' 2 g9 s' (l.map cpN)/\(s' = .nilslc \/ l ≠ [])/\(∀ b,z7 s' = some b->h.next <= b)/\Kept h h':=by
  obtain ⟨P,hP⟩:∃ P:CR->Prop,P = fun r=>∃ s' h',r = .ret (.one s') h'/\Sl h' 2 g9 s' (l.map cpN)/\(s' = .nilslc \/ l ≠ [])/\(∀ b,z7 s' = some b->h.next <= b)/\Kept h h':=⟨_,rfl⟩
  suffices hh:∃ r,W K 136 [.one s] h = some r/\P r by rw [hP] at hh;exact hh
  refine zzE func136 rfl ?_
  simp only [f136]
  intro Q8 Y8
  repeat' (first
   | (replace Y8:=Y8;simp [hla])
   | refine Y8 _ _ _ ?_
   | refine dF (id:=5) l0W [(2,5)] ?_)
  refine I8 hp l (fun a r fr hh=>(h.next <= hh.next/\(∀ b,b < h.next->hh.f b = h.f b)/\∃ s1,Sl hh 2 g9 s1 (a.map cpN)/\(s1 = .nilslc \/ a ≠ [])/\(∀ b,z7 s1 = some b->h.next <= b)/\∃ j:Nat->AV,fr = (j 0::j 1::j 2::(.one s1)::j 4::j 5::(.one s)::(.one (ii l.length))::(.one (ii a.length))::j 9::j 10::j 11::j 12::j 13::j 14::j 15::j 16::j 17::j 18::j 19::j 20::j 21::j 22::[]))) ?_ ?_ _ _ ⟨oqg _,fun _ _=>rfl,.nilslc,.inl ⟨rfl,rfl⟩,.inl rfl,by simp [z7],y0 (by simp)⟩
  ·rintro a x r fr hh hle ⟨i1,i2,s1,i3,i4,i5,j,rfl⟩
   have hil:a.length < l.length:=by rw [hle];simp
   have hxe:l[a.length] = x:=by simp only [hle];simp
   have hsee:Sees hh 2 s (cat g9 l):=Rw.sees_keep hs fun b hb=>i2 b (hsl b hb)
   have hix:U7 prog 48 s a.length = some (atS 2 s a.length):=a0b underlying48 (by simp) hsee (by omega) hcl hil
   have hrd:K8 hh (atS 2 s a.length) 2 = some (g9 x):=by rw [a0z hsee (by omega) hcl hil,d0F C4 _ hil,hxe]
   have hxr:=hr x (by rw [hle];simp)
   have hw:IntKind.i64.wrap ((a.length:Int) + 1) = ((a++[x]).length:Int):=by rw [S4];exact J1 (by omega)
   have hmap:(a++[x]).map cpN = a.map cpN++[cpN x]:=by simp
   obtain ⟨xn,xr⟩:=x
   have hcp:=g0r xr hxr
   have hce:g9 (cpN ⟨xn,xr⟩) = [.str xn,sl 2 l7 (rowCopy xr)]:=rfl
   have i3':Sl ((hh.new ⟨0,[2],true,[.str xn,sl 2 l7 xr]⟩).new ⟨0,[2],true,g9 (cpN ⟨xn,xr⟩)⟩) 2 g9 s1 (a.map cpN):=i3.keep (by simp;omega) fun b hb=>by
    have:=i3.lt hb
    rw [p0 (by simp;omega),p0 (by omega)]
   obtain ⟨s2,h2,e2,⟨b2,v2,z2,hs2,ar2⟩,k1,k2,k3⟩:=P7 (P:=prog) (t:=48) underlying48 (by simp) (by simp) Tryz.bytes83 (by omega) C4 (a:=.slc (hh.next + 1) 0 0 1 2 none) (m:=[cpN ⟨xn,xr⟩]) i3' rfl (by simp [C6,cat,hce,sub]) (by simp) (by simp only [oqi,oqb,oqc,Nat.zero_add,N3];omega)
   simp only [A6] at k1 k2 k3
   rw [hce] at e2
   simp only [J8] at hcp
   have hA0:a++[(⟨xn,xr⟩:Named)] ≠ []:=by simp
   generalize hA2:a++[(⟨xn,xr⟩:Named)] = A2 at *
   simp only [g9] at hrd
   first | (refine s9 ?_;intro Q9 Y9) | have Y9:=oqk
   repeat' (first
    | (replace Y9:=Y9;simp [hix,hrd,hil,hcp,e2,hw])
    | (refine Y9 _ _ _ ?_;clear Y9 Q9;first | simp only [] | skip)
    | (refine F6 (by assumption) ?_;(try clear Y9);first | simp only [] | skip)
    | ((fail_if_success replace Y9:=Y9);(first | refine s9 ?_ | refine A1 ?_ | refine A4 ?_);intro Q9 Y9)
    | refine dF (id:=5) l0W [(2,5)] ?_)
   refine ⟨by omega,fun b hb=>?_,s2,.inr ⟨b2,v2,z2,by rw [hs2,hmap],by rw [hmap];exact ar2⟩,.inr hA0,fun b hb=>?_,y0 (by simp)⟩
   ·rw [k2 b (by omega) (fun e=>by have:=i5 b e;omega),p0 (by simp;omega),p0 (by omega)];exact i2 b hb
   ·rcases k3 b hb with e | e
    ·exact i5 b e
    ·omega
  ·rintro fr hh ⟨i1,i2,s1,i3,i4,i5,j,rfl⟩
   first | (refine s9 ?_;intro Q10 Y10) | have Y10:=oqk
   repeat' (first
    | (replace Y10:=Y10;simp)
    | (refine Y10 _ _ _ ?_;clear Y10 Q10;first | simp only [] | simp | skip)
    | (refine F6 (by assumption) ?_;(try clear Y10);first | simp only [] | simp | skip)
    | ((fail_if_success replace Y10:=Y10);(first | refine s9 ?_ | refine A1 ?_ | refine A4 ?_);intro Q10 Y10)
    | refine dF (id:=5) l0W [(2,5)] ?_)
   rw [hP]
   exact ⟨s1,hh,rfl,i3,i4,i5,i1,i2⟩
 obtain ⟨r,e,s',h',rfl,k⟩:=key
 exact ⟨s',h',e,k⟩
theorem t0q {h:H} {b v:Nat} {l:List Named} {z:List AS} (ar:Arr h g9 b v l z) (i:Nat) (hi:i < l.length) (hl:l.length <= 1000000) :
  ∃ r,W K 210 [.one (.slc b v 0 l.length 2 none),.one (ii i),.one (ii (i + 1))] h = some r/\Rets (fun q h'=>q = .one (.slc b v 0 (l.length - 1) 2 none)/\(∃ z',Arr h' g9 b v (l.eraseIdx i) z')/\h'.next = h.next/\∀ y,y ≠ b->h'.f y = h.f y) r:=by
 refine Rets.intro fun P hP=>?_
 obtain ⟨h1,z1,e1,a1,hz1,n1,f1⟩:=i0M (P:=prog) (t:=48) underlying48 (by simp) (by simp) Tryz.bytes83 (by omega) C4 ar hi (by simp only [N3];omega)
 have hll:(l.eraseIdx i).length = l.length - 1:=by rw [List.length_eraseIdx];simp [hi]
 obtain ⟨kb,hw,a2⟩:=d0I C4 a1 (c:=[.str [],.nilslc]) (by rw [hz1];simp)
 obtain ⟨_,fx,ex,hf⟩:=a1
 rw [hll] at hw
 have hE:l.length * 2 <= (cat g9 (l.eraseIdx i)++z1).length:=by rw [oqa,A8 C4,hll,hz1];omega
 generalize cat g9 (l.eraseIdx i)++z1 = M at hf hE
 have q1:(i:Int) <= (i:Int) + 1:=by omega
 have q2:((i:Int) + 1).toNat = i + 1:=by omega
 have q3:i <= i + 1:=by omega
 have q4:i + 1 <= l.length:=by omega
 have q5:i <= l.length:=by omega
 have q6:l.length - 1 <= l.length:=by omega
 have q7:¬ l.length <= l.length - 1:=by omega
 have q8:l.length - (l.length - 1) = 1:=by omega
 have q9:(0:Int) <= (i:Int) + 1:=by omega
 have q10:¬ (i:Int) = (i:Int) + 1:=by omega
 have q11:decide ((i:Int) = (i:Int) + 1) = false:=by simp;omega
 have q12:((i:Int) == (i:Int) + 1) = false:=by simp;omega
 have q13:¬ i + 1 < i:=by omega
 have q14:¬ l.length < i + 1:=by omega
 have q15:¬ l.length < l.length - 1:=by omega
 have q16:¬ l.length < i:=by omega
 refine zzE func210 rfl ?_
 simp only [f210]
 intro Q1 Y1
 repeat' (first
  | (replace Y1:=Y1;simp [-lay,-a0O,-c0Z,e1,hf,hE,q2,q4,q5,q6,q7,q8,q9,q12,q13,q14,q15,hw,N4,U8,N7,d0T])
  | refine Y1 _ _ _ ?_
  | refine dF (id:=5) zl8 [] ?_)
 all_goals exact hP _ _ ⟨rfl,⟨_,a2⟩,by simpa using n1,fun y hy=>by rw [l0,if_neg hy];exact f1 y hy⟩
theorem y0t {h:H} {s:AS} {l:List Named} (w:Sl h 2 g9 s l) (i:Nat) (hi:i <= l.length) (x:Named) {bv:Nat} (hv:h.f bv = some ⟨0,[2],true,g9 x⟩) (hne:z7 s ≠ some bv) (hl:l.length < 1000000) :
  ∃ s' h',W K 211 [.one s,.one (ii i),.one (.slc bv 0 0 1 2 none)] h = some (.ret (.one s') h')/\(∃ b v z,s' = .slc b v 0 (l.insertIdx i x).length 2 none/\Arr h' g9 b v (l.insertIdx i x) z)/\h.next <= h'.next/\(∀ b,b < h.next->z7 s ≠ some b->h'.f b = h.f b)/\(∀ b,z7 s' = some b->z7 s = some b \/ h.next <= b):=by
 obtain ⟨s',h',e,q⟩:=j0J (P:=prog) (t:=48) underlying48 (by simp) (by simp) Tryz.bytes83 (by omega) C4 w i hi x hv hne (by simp only [N3];omega) (by omega)
 exact ⟨s',h',by rw [l0h hp (g:=u0A ⟨2,40⟩) rfl];exact e,q⟩
theorem q0x {x:Named} {l:List Named} (ok:TblOk l) (hx:x ∈ l):(ls x.r).length < 1000000:=by
 have:=(ok.row x hx).1
 rw [<- this];have:=c0S (P6 x.r);omega
theorem o0w {l:List Named} (ok:TblOk l) {m:List Named} (hm:∀ x ∈ m,x ∈ l):m.map cpN = m:=by
 rw [List.map_congr_left (g:=id)]
 ·simp
 ·intro x hx;obtain ⟨n,r⟩:=x;simp [cpN,(ok.row _ (hm _ hx)).1]
theorem s0K {h:H} {p:Nat} {l:List Named} {q:Option Nat} (w:Bx h p 2 g9 l q) (ok:TblOk l) (n:BL):W K 119 [.one (.ptr p 0 0),.one (.str n)] h = some (.ret (.tup [(true,J8 (b0g l n).1),(false,[.bool (b0g l n).2])]) h):=by
 have hlen:=ok.len
 have hpl:=w.1
 have hf:=fun k=>i0e (w.new k) ok.srt (by omega) n
 have key:∃ r,W K 119 [.one (.ptr p 0 0),.one (.str n)] h = some r/\r = .ret (.tup [(true,J8 (b0g l n).1),(false,[.bool (b0g l n).2])]) h:=by
  obtain ⟨res,hres⟩:∃ res,b0g l n = res:=⟨_,rfl⟩
  rw [hres]
  unfold b0g at hres
  have hne:¬ p = h.next:=by omega
  have hk:∀ k,Kept h (h.new k):=fun k=>⟨by simp,fun b hb=>p0 (by omega)⟩
  have hsn:sl 2 l7 none = .nilslc:=rfl
  cases hT:tat l n with
  | false =>
   rw [hT] at hres hf
   simp only [oqF,if_false] at hres
   subst hres
   refine zzI func119 rfl ?_
   simp only [f119]
   intro Q2 Y2
   repeat' (first
    | (replace Y2:=Y2;simp [hf])
    | refine Y2 _ _ _ ?_)
   exact ⟨_,c0B (hk _) (by simp [b0u,v9,c7]),by simp [J8,hsn]⟩
  | true =>
   rw [hT] at hres hf
   simp only [if_true] at hres
   obtain ⟨hi,_⟩:=j0M hT
   obtain ⟨w1,s,w2,w3,w4,w5⟩:=w
   generalize tix l n = I at *
   rw [List.getElem?_eq_getElem hi] at hres
   simp only [oqS] at hres
   have hcl:=A8 C4 l
   have hb:∃ b v z,s = .slc b v 0 l.length 2 none/\Arr h g9 b v l z:=by
    rcases w3 with ⟨_,e⟩ | ⟨b,v,z,e,ar⟩
    ·rw [e] at hi;simp at hi
    ·exact ⟨b,v,z,e,ar⟩
   obtain ⟨b,v,z,rfl,ar⟩:=hb
   obtain ⟨fx,ex,M,hfb,_,_,hrd,_⟩:=ar.cells C4
   obtain ⟨q1,q2⟩:=hrd I hi
   have q3:=b0e q2 (o:=1) (n:=1) (by omega)
   have q4:sub (g9 l[I]) 1 1 = some [sl 2 l7 l[I].r]:=rfl
   rw [q4] at q3
   have q5:I * 2 + 1 + 1 <= M.length:=by omega
   have hx:=U5 (P:=prog) (size:=2) (b:=b) (v:=v) (n:=l.length) (i:=I) underlying48 (by simp) (by omega) hi
   have hbn:¬ b = h.next:=by have:=ar.1;omega
   have hcp:=g0r l[I].r (q0x ok (List.getElem_mem hi))
   subst hres
   simp only [J8] at hcp
   generalize l[I].r = R at *
   refine zzI func119 rfl ?_
   simp only [f119]
   intro Q3 Y3
   repeat' (first
    | (replace Y3:=Y3;simp [hf,w2,hne,hfb,hbn,hx,q3,q5,hcp])
    | refine Y3 _ _ _ ?_)
   exact ⟨_,c0B (h1:=h.new ⟨0,[1],true,[sl 2 l7 (rowCopy R)]⟩) (hk _) (by simp [b0u,v9,c7]),by simp [J8]⟩
 obtain ⟨r,e,rfl⟩:=key
 exact e
end Go.Proofs.YtiagcnfmgigllaaGreat
namespace Wm
open Go Go.Ab
section
variable {α:Type} {lt:α->α->Bool}
theorem U0 (ht:∀ a b c,lt a b = true->lt b c = true->lt a c = true):∀ {l:List α},J5 lt l = true ↔ ∀ i j (hi:i < j) (hj:j < l.length),lt l[i] l[j] = true
 | []=>by simp
 | [a]=>by simp;intro i j hi hj;omega
 | a::b::l=>by
  have ih:=U0 ht (l:=b::l)
  constructor
  ·intro h i j hi hj
   have hall:=c0b ht h
   have h2:=ih.1 (f0d h)
   cases j with
   | zero=>omega
   | succ j =>
    cases i with
    | zero=>simp only [List.getElem_cons_zero,List.getElem_cons_succ];exact hall _ (List.getElem_mem _)
    | succ i=>simp only [List.getElem_cons_succ];exact h2 i j (by omega) (by simpa using hj)
  ·intro h
   simp only [J5,oqd]
   refine ⟨by have:=h 0 1 (by omega) (by simp);simpa using this,ih.2 fun i j hi hj=>?_⟩
   have:=h (i + 1) (j + 1) (by omega) (by simpa using hj)
   simpa only [List.getElem_cons_succ] using this
theorem p0J (ht:∀ a b c,lt a b = true->lt b c = true->lt a c = true) {l:List α} (h:J5 lt l = true) (i:Nat):J5 lt (l.eraseIdx i) = true:=by
 rw [U0 ht] at h |-
 intro a b hab hb
 have hl:(l.eraseIdx i).length <= l.length:=(List.eraseIdx_sublist l i).length_le
 rw [List.getElem_eraseIdx,List.getElem_eraseIdx]
 rw [List.length_eraseIdx] at hb
 split at hb <;> split <;> split <;> exact h _ _ (by omega) (by omega)
theorem t0y {a b:List α} (ht:∀ a b c,lt a b = true->lt b c = true->lt a c = true) (ha:J5 lt a = true) (hb:J5 lt b = true) (hab:∀ x ∈ a,∀ y ∈ b,lt x y = true):J5 lt (a++b) = true:=by
 rw [U0 ht]
 intro i j hij hj
 rw [oqa] at hj
 by_cases h1:j < a.length
 ·rw [List.getElem_append_left (by omega),List.getElem_append_left h1]
  exact (U0 ht).1 ha i j hij h1
 ·by_cases h2:i < a.length
  ·rw [List.getElem_append_left h2,List.getElem_append_right (by omega)]
   exact hab _ (List.getElem_mem _) _ (List.getElem_mem _)
  ·rw [List.getElem_append_right (by omega),List.getElem_append_right (by omega)]
   exact (U0 ht).1 hb _ _ (by omega) (by omega)
theorem g0Y {l:List α} (h:J5 lt l = true) (i:Nat):J5 lt (l.take i) = true/\J5 lt (l.drop i) = true:=by
 rw [<- List.take_append_drop i l] at h
 exact ⟨c0N h,b0k h⟩
theorem n0w (ht:∀ a b c,lt a b = true->lt b c = true->lt a c = true) {l:List α} (h:J5 lt l = true) {i:Nat} (hi:i <= l.length) {x:α} (h1:∀ y ∈ l.take i,lt y x = true) (h2:∀ y ∈ l.drop i,lt x y = true):J5 lt (l.insertIdx i x) = true:=by
 rw [c0I hi]
 have hp:=g0Y h i
 refine t0y ht hp.1 ?_ fun a ha b hb=>?_
 ·cases hd:l.drop i with
  | nil=>rfl
  | cons y m =>
   simp only [J5,oqd]
   rw [hd] at h2 hp
   exact ⟨h2 y (by simp),hp.2⟩
 ·rcases oqf.1 hb with rfl | hb
  ·exact h1 a ha
  ·rw [<- List.take_append_drop i l] at h
   have:=(U0 ht).1 h
   obtain ⟨m,hm,rfl⟩:=List.getElem_of_mem ha
   obtain ⟨k,hk,rfl⟩:=List.getElem_of_mem hb
   have:=this m ((l.take i).length + k) (by omega) (by rw [oqa];omega)
   rw [List.getElem_append_left hm,List.getElem_append_right (by omega)] at this
   simpa using this
theorem n0i (ht:∀ a b c,lt a b = true->lt b c = true->lt a c = true) {l:List α} (h:J5 lt l = true) {i:Nat} (hi:i < l.length) {x:α} (h1:∀ y,lt y l[i] = true->lt y x = true) (h2:∀ y,lt l[i] y = true->lt x y = true):J5 lt (l.set i x) = true:=by
 rw [U0 ht] at h |-
 intro a b hab hb
 rw [List.length_set] at hb
 rw [List.getElem_set,List.getElem_set]
 split
 ·subst_vars
  rw [if_neg (by omega)]
  exact h2 _ (h _ _ hab (by simpa using hb))
 ·split
  ·subst_vars;exact h1 _ (h _ _ hab (by omega))
  ·exact h _ _ hab hb
end
theorem r0y {α:Type} {p:α->Bool} {l:List α} {x:α} (h:x ∈ l.take (l.takeWhile p).length):p x = true:=by
 obtain ⟨i,hi,rfl⟩:=List.getElem_of_mem h
 rw [oqo] at hi
 rw [List.getElem_take]
 exact v0L (by omega) (by omega)
theorem k0a {α:Type} {lt:α->α->Bool} {p:α->Bool} (ht:∀ a b c,lt a b = true->lt b c = true->lt a c = true) (hp:∀ a b,lt a b = true->p b = true->p a = true) {l:List α} (hs:J5 lt l = true) {x:α} (h:x ∈ l.drop (l.takeWhile p).length):p x = false:=by
 obtain ⟨i,hi,rfl⟩:=List.getElem_of_mem h
 rw [List.length_drop] at hi
 rw [List.getElem_drop]
 have:=(o0B ht hp hs ((l.takeWhile p).length + i) (by omega)).2
 cases hx:p l[(l.takeWhile p).length + i] with
 | false=>rfl
 | true=>have:=this hx;omega
theorem b0b (a b c:Named) (h1:f0A a b = true) (h2:f0A b c = true):f0A a c = true:=S1 _ _ _ h1 h2
theorem y0J {l:List Named} (ok:TblOk l) (n:BL) (r:Row):TblOk (i0p l n r).1:=by
 unfold i0p
 split
 ·exact ok
 rename_i hc
 simp only [Bool.not_eq_false,oqd] at hc
 split
 ·split
  ·refine ⟨p0J b0b ok.srt _,fun x hx=>ok.nm x ((List.eraseIdx_sublist _ _).subset hx),fun x hx=>ok.row x ((List.eraseIdx_sublist _ _).subset hx), ?_⟩
   have:=ok.len
   have:=(List.eraseIdx_sublist l (tix l n)).length_le
   simp only;omega
  ·exact ok
 rename_i h0
 have hrow:rowCopy (rowCopy r) = rowCopy r/\rowCopy r ≠ none:=⟨a0s r,by
  unfold rowCopy
  rw [if_pos hc.2]
  cases h:ls r with
  | nil=>exact absurd h h0
  | cons a m=>simp⟩
 split
 ·rename_i hT
  obtain ⟨hi,hn⟩:=j0M hT
  refine ⟨n0i b0b ok.srt hi (fun y hy=>by simpa [f0A,hn] using hy) (fun y hy=>by simpa [f0A,hn] using hy),fun x hx=>?_,fun x hx=>?_,by simp only [List.length_set];exact ok.len⟩
  ·rcases List.mem_or_eq_of_mem_set hx with h | rfl
   ·exact ok.nm x h
   ·exact hc.1
  ·rcases List.mem_or_eq_of_mem_set hx with h | rfl
   ·exact ok.row x h
   ·exact hrow
 ·rename_i hT
  split
  ·exact ok
  ·rename_i h32
   have hi:=g0P l n
   have hmem:∀ x ∈ l.insertIdx (tix l n) ⟨n,rowCopy r⟩,x = ⟨n,rowCopy r⟩ \/ x ∈ l:=fun x hx=>by
    rw [c0I hi] at hx
    rcases oqe.1 hx with h | h
    ·exact .inr (List.mem_of_mem_take h)
    ·rcases oqf.1 h with h | h
     ·exact .inl h
     ·exact .inr (List.mem_of_mem_drop h)
   refine ⟨n0w b0b ok.srt hi (fun y hy=>show blt y.name n = true from r0y (p:=fun c:Named=>blt c.name n) hy) (fun y hy=>?_),fun x hx=>?_,fun x hx=>?_, ?_⟩
   ·have h1:=k0a (lt:=f0A) (p:=fun c=>blt c.name n) b0b (fun a b h1 h2=>S1 _ _ _ h1 h2) ok.srt hy
    show blt n y.name = true
    cases h2:blt n y.name with
    | true=>rfl
    | false =>
     exfalso
     have he:y.name = n:=a0a h1 h2
     apply hT
     unfold tat
     obtain ⟨k,hk,rfl⟩:=List.getElem_of_mem hy
     rw [List.getElem_drop] at he
     rw [List.length_drop] at hk
     have h0k:k = 0:=by
      rcases Nat.eq_zero_or_pos k with h | h
      ·exact h
      ·exfalso
       have:=(U0 b0b).1 ok.srt (tix l n) (tix l n + k) (by omega) (by unfold tix at *;omega)
       have h3:blt l[tix l n].name n = true:=by
        have:blt l[tix l n].name l[tix l n + k].name = true:=this
        rw [show l[tix l n + k].name = n from he] at this;exact this
       have h4:=k0a (lt:=f0A) (p:=fun c=>blt c.name n) b0b (fun a b h1 h2=>S1 _ _ _ h1 h2) ok.srt (x:=l[tix l n]) (List.mem_drop_iff_getElem.2 ⟨0,by unfold tix at *;omega,by simp [tix]⟩)
       rw [h3] at h4;cases h4
     subst h0k
     rw [List.getElem?_eq_getElem (by unfold tix at *;omega)]
     simpa [tix] using he
   ·rcases hmem x hx with rfl | h
    ·exact hc.1
    ·exact ok.nm x h
   ·rcases hmem x hx with rfl | h
    ·exact hrow
    ·exact ok.row x h
   ·simp only [List.length_insertIdx,if_pos hi];omega
theorem TblOk.take {l:List Named} (ok:TblOk l) (i:Nat):TblOk (l.take i):=⟨(g0Y ok.srt i).1,fun x hx=>ok.nm x (List.mem_of_mem_take hx),fun x hx=>ok.row x (List.mem_of_mem_take hx),by have:=ok.len;simp only [oqo];omega⟩
theorem TblOk.drop {l:List Named} (ok:TblOk l) (i:Nat):TblOk (l.drop i):=⟨(g0Y ok.srt i).2,fun x hx=>ok.nm x (List.mem_of_mem_drop hx),fun x hx=>ok.row x (List.mem_of_mem_drop hx),by have:=ok.len;simp only [List.length_drop];omega⟩
theorem b0i (a b c:Tld) (h1:b0L a b = true) (h2:b0L b c = true):b0L a c = true:=by
 simp only [b0L,oqj] at *;omega
theorem a0B {c s:Int} {b:Option BL} (h:a0U c s b = true):0 <= c/\c <= 255/\1 <= s/\s <= 1073741824/\(ls b).length <= 1048576:=by
 simpa only [a0U,oqd,oqj] using h
theorem y0o {l:List Tld} (hs:J5 b0L l = true) (hr:∀ x ∈ l,0 <= x.client/\x.client <= 255):l.length <= 256:=by
 have key:∀ i (hi:i < l.length),(i:Int) <= l[i].client:=by
  intro i
  induction i with
  | zero=>intro hi;have:=hr _ (List.getElem_mem hi);simpa using this.1
  | succ i ih =>
   intro hi
   have h1:=ih (by omega)
   have h2:=(U0 b0i).1 hs i (i + 1) (by omega) hi
   simp only [b0L,oqj] at h2
   omega
 rcases Nat.eq_zero_or_pos l.length with h | h
 ·omega
 ·have h1:=key (l.length - 1) (by omega)
  have h2:=(hr _ (List.getElem_mem (by omega:l.length - 1 < l.length))).2
  omega
theorem CchOk.of {l:List Tld} (hs:J5 b0L l = true) (hr:∀ x ∈ l,a0U x.client x.seq x.b = true):CchOk l:=⟨hs,hr,y0o hs fun x hx=>⟨(a0B (hr x hx)).1,(a0B (hr x hx)).2.1⟩⟩
theorem k0S {l:List Tld} (ok:CchOk l) (c s:Int) (b:Option BL):CchOk (a0v l c s b).1:=by
 unfold a0v
 split
 ·exact ok
 rename_i hc
 simp only [not_or,Bool.not_eq_false] at hc
 split
 ·rename_i hT
  obtain ⟨hi,hn⟩:=h0z hT
  refine .of (n0i b0i ok.srt hi (fun y hy=>by simpa [b0L,hn] using hy) (fun y hy=>by simpa [b0L,hn] using hy)) fun x hx=>?_
  rcases List.mem_or_eq_of_mem_set hx with h | rfl
  ·exact ok.ok x h
  ·exact hc.2
 ·rename_i hT
  have hi:=l0F l c
  have hpt:∀ a b:Tld,b0L a b = true->decide (b.client < c) = true->decide (a.client < c) = true:=fun a b h1 h2=>by simp only [b0L,oqj] at *;omega
  refine .of (n0w b0i ok.srt hi (fun y hy=>show decide (y.client < c) = true from r0y (p:=fun x:Tld=>decide (x.client < c)) hy) (fun y hy=>?_)) fun x hx=>?_
  ·have h1:=k0a (lt:=b0L) (p:=fun x=>decide (x.client < c)) b0i hpt ok.srt hy
   simp only [decide_eq_false_iff_not,Int.not_lt] at h1
   show decide (c < y.client) = true
   rw [oqj]
   rcases Int.lt_or_eq_of_le h1 with h | he
   ·exact h
   ·exfalso
    apply hT
    unfold f0S
    obtain ⟨k,hk,rfl⟩:=List.getElem_of_mem hy
    rw [List.getElem_drop] at he
    rw [List.length_drop] at hk
    have h0k:k = 0:=by
     rcases Nat.eq_zero_or_pos k with h | h
     ·exact h
     ·exfalso
      have:=(U0 b0i).1 ok.srt (cix l c) (cix l c + k) (by omega) (by unfold cix at *;omega)
      simp only [b0L,oqj] at this
      have h4:=k0a (lt:=b0L) (p:=fun x=>decide (x.client < c)) b0i hpt ok.srt (x:=l[cix l c]'(by unfold cix at *;omega)) (List.mem_drop_iff_getElem.2 ⟨0,by unfold cix at *;omega,by simp [cix]⟩)
      simp only [decide_eq_false_iff_not,Int.not_lt] at h4
      have h5:l[cix l c + k].client = c:=he.symm
      omega
    subst h0k
    rw [List.getElem?_eq_getElem (by unfold cix at *;omega)]
    simpa [cix] using he.symm
  ·rw [c0I hi] at hx
   rcases oqe.1 hx with h | h
   ·exact ok.ok x (List.mem_of_mem_take h)
   ·rcases oqf.1 h with rfl | h
    ·exact hc.2
    ·exact ok.ok x (List.mem_of_mem_drop h)
theorem s0O:∀ {m l:List Tld},CchOk l->CchOk (l0z l m)
 | [],_,ok=>ok
 | x::m,l,ok=>s0O (m:=m) (k0S ok x.client x.seq x.b)
theorem x0X {α:Type} {p:α->Bool}:∀ {l:List α},(∀ x ∈ l,p x = true)->(l.takeWhile p).length = l.length
 | [],_=>rfl
 | a::l,h=>by simp only [List.takeWhile_cons,h a (by simp),if_true,oqb];rw [x0X fun x hx=>h x (by simp [hx])]
theorem m0T {a:List Tld} {x:Tld} (h:∀ y ∈ a,y.client < x.client) (hr:a0U x.client x.seq x.b = true):(a0v a x.client x.seq x.b).1 = a++[x]:=by
 have hix:cix a x.client = a.length:=by unfold cix;exact x0X fun y hy=>by simp [h y hy]
 have hat:f0S a x.client = false:=by unfold f0S;rw [hix,List.getElem?_eq_none (oqg _)]
 have hs:=(a0B hr).2.2.1
 unfold a0v
 rw [if_neg,if_neg (by rw [hat];simp),hix,c0I (oqg _)]
 ·simp
 ·rintro (h1 | h1)
  ·apply h1
   unfold a0D
   dsimp only
   rw [hat,if_neg (by simp;omega),if_neg (by simp)]
  ·rw [hr] at h1;cases h1
theorem u0i {l:List Tld} (ok:CchOk l):l0z [] l = l:=by
 have key:∀ (m a:List Tld),a++m = l->l0z a m = l:=by
  intro m
  induction m with
  | nil=>intro a h;simpa [l0z] using h
  | cons x m ih =>
   intro a h
   have hx:a0U x.client x.seq x.b = true:=ok.ok x (by rw [<- h];simp)
   have hlt:∀ y ∈ a,y.client < x.client:=fun y hy=>by
    obtain ⟨i,hi,rfl⟩:=List.getElem_of_mem hy
    have:=(U0 b0i).1 ok.srt i a.length hi (by rw [<- h];simp)
    simp only [b0L,oqj] at this
    subst h
    rw [List.getElem_append_left hi,List.getElem_append_right (oqg _)] at this
    simpa using this
   show l0z (a0v a x.client x.seq x.b).1 m = l
   rw [m0T hlt hx]
   exact ih (a++[x]) (by simpa using h)
 exact key l [] rfl
end Wm
namespace Go.Proofs.YtiagcnfmgigllaaGreat
open Go Go.Ab Wm NumPlain Go.Proofs.Tryz
set_option maxRecDepth 10000
set_option maxHeartbeats 4000000
theorem j0E {h h1:H} {s:AS} {l:List Named} {N:BL} (a:Sl h1 2 g9 s l) (hs:s = .nilslc \/ l ≠ []) (hb:∀ b,z7 s = some b->h.next <= b) (hk:Kept h h1):iceR true h (.ret (.tup [(false,[s]),(false,[.str N])]) h1) = some (.ret (.tup [(false,[sl 2 g9 (nz l)]),(false,[.str N])]) h):=by
 obtain ⟨o,ho,h2,h3,h4,h5⟩:=n0M (h:=h) C4 y0X a hb 62
 have hn':o = nz l:=by
  rcases hs with hs | hs
  ·rw [h3 hs];rw [h3 hs] at ho;rw [<- ho];rfl
  ·rw [h2 hs,f0G hs]
 rw [hn'] at h5
 refine g0t hk ?_
 have hx:z9 false (h1.over h.next) 64 (.str N) = some (.str N):=by simp [z9,c7]
 simp only [A0,L9,List.mapM_cons,List.mapM_nil,h5,hx,oqE,oqS,oqP]
theorem p0j {h:H} {p:Nat} {l:List Named} {q:Option Nat} (w:Bx h p 2 g9 l q) (ok:TblOk l) (lo hi:BL) (most:Int):W K 83 [.one (.ptr p 0 0),.one (.str lo),.one (.str hi),.one (ii most)] h = some (.ret (.tup [(false,[sl 2 g9 (nz (a0l l lo hi most).1)]),(false,[.str (a0l l lo hi most).2])]) h):=by
 have hlen:=ok.len
 have hf1:=i0e w ok.srt (by omega) lo
 have hf2:=i0e w ok.srt (by omega) hi
 have hokl:=fun x hx=>q0x (x:=x) ok hx
 have key:∃ r,W K 83 [.one (.ptr p 0 0),.one (.str lo),.one (.str hi),.one (ii most)] h = some r/\r = .ret (.tup [(false,[sl 2 g9 (nz (a0l l lo hi most).1)]),(false,[.str (a0l l lo hi most).2])]) h:=by
  obtain ⟨res,hres⟩:∃ res,a0l l lo hi most = res:=⟨_,rfl⟩
  rw [hres]
  unfold a0l at hres
  dsimp only at hres
  obtain ⟨w1,s,w2,w3,w4,w5⟩:=w
  have hla:∀ (u:TypeId) (h':H),V9 s (some (.slice u)) h' = some (one (ii l.length) h'):=fun u h'=>U4 h' u (w3.sees C4) (by omega) (A8 C4 l)
  obtain ⟨a,ha⟩:∃ a:Int,(if (16:Int) < most then (16:Int) else most) = a:=⟨_,rfl⟩
  obtain ⟨m,hm⟩:∃ m:Nat,(max 0 (min most 16)).toNat = m:=⟨_,rfl⟩
  have hm2:(if (0:Int) < a then a else 0) = (m:Int):=by
   rw [<- hm,<- ha];split <;> split <;> omega
  rw [hm] at hres
  have hm16:m <= 16:=by omega
  have hti:=g0P l lo
  have hte:=g0P l hi
  generalize tat l lo = T1 at *
  generalize tat l hi = T2 at *
  generalize hI:tix l lo = I at *
  obtain ⟨E,hE⟩:∃ E:Nat,(if hi = [] then l.length else tix l hi) = E:=⟨_,rfl⟩
  rw [hE] at hres
  have hEl:E <= l.length:=by rw [<- hE];split <;> omega
  have tail:∀ (c0:Bool),(c0 = true->hi ≠ []/\tix l hi = E)->(c0 = false->hi = []/\l.length = E)->True:=fun _ _ _=>trivial
  by_cases hge:E <= I
  ·rw [if_pos hge] at hres
   subst hres
   have d1:decide ((I:Int) >= E) = true:=by simp;omega
   have d2:(E:Int) <= I:=by omega
   by_cases h0:hi = []
   ·subst h0
    simp only [if_true] at hE
    subst hE
    have b0:(([]:BL) != []) = false:=rfl
    refine zzI func83 rfl ?_
    simp only [f83]
    intro Q1 Y1
    repeat' (first
     | (replace Y1:=Y1;simp [S8,X8,ha,hm2,hf1,w2,hla,O7,d2])
     | refine Y1 _ _ _ ?_
     | refine dF (id:=11) c0n [(3,8)] ?_)
    exact ⟨_,c0B (b0X h) (by simp [b0u,v9,c7]),by simp [sl]⟩
   ·rw [if_neg h0] at hE
    subst hE
    have b0:(hi == []) = false:=by simp [h0]
    refine zzI func83 rfl ?_
    simp only [f83]
    intro Q2 Y2
    repeat' (first
     | (replace Y2:=Y2;simp [S8,X8,ha,hm2,hf1,hf2,w2,hla,O7,b0,d2])
     | refine Y2 _ _ _ ?_
     | refine dF (id:=11) c0n [(3,8)] ?_)
    exact ⟨_,c0B (b0X h) (by simp [b0u,v9,c7]),by simp [sl]⟩
  ·rw [if_neg hge] at hres
   have d1:decide ((I:Int) >= E) = false:=by simp;omega
   have d2:¬ (E:Int) <= I:=by omega
   have hb:∃ b v z,s = .slc b v 0 l.length 2 none/\Arr h g9 b v l z:=by
    rcases w3 with ⟨_,e⟩ | ⟨b,v,z,e,ar⟩
    ·rw [e] at hEl;simp at hEl;omega
    ·exact ⟨b,v,z,e,ar⟩
   obtain ⟨b,v,z,rfl,ar⟩:=hb
   obtain ⟨S,hS⟩:∃ S,(l.take E).drop I = S:=⟨_,rfl⟩
   have hSl:S.length = E - I:=by rw [<- hS];simp;omega
   have hSm:∀ x ∈ S,x ∈ l:=fun x hx=>by rw [<- hS] at hx;exact List.mem_of_mem_take (List.mem_of_mem_drop hx)
   have hrd:=j0R C4 ar (i:=I) (e:=E) (by omega) hEl
   rw [hS] at hrd
   rw [hS] at hres
   have hsl1:N4 h 2 (.slc b v 0 l.length 2 none) (some (.one (ii I))) (some (.one (ii E))) none = some (.slc b v (I * 2) (E - I) 2 none):=by
    simp [N4,U8,show I <= E by omega,hEl]
   have hsee:Sees h 2 (.slc b v (I * 2) (E - I) 2 none) (cat g9 S):=⟨rfl,hrd⟩
   have hss:∀ o n,N7 prog 48 (.slc b v o n 2 none) = some 2:=fun o n=>by simp [N7]
   have hbn:∀ x,z7 (.slc b v (I * 2) (E - I) 2 none) = some x->x < h.next:=fun x hx=>by cases hx;exact ar.1
   by_cases hsm:S.length <= m
   ·rw [if_pos hsm] at hres
    subst hres
    obtain ⟨s',h',e1,a1,a2,a3,a4⟩:=i0f hsee hbn (by omega) (fun x hx=>hokl x (hSm x hx))
    rw [o0w ok hSm] at a1
    have d3:decide (((E - I:Nat):Int) <= m) = true:=by simp;omega
    have d4:((E - I:Nat):Int) <= m:=by omega
    have d5:E - I <= m:=by omega
    generalize hL:E - I = L at *
    by_cases h0:hi = []
    ·subst h0
     simp only [if_true] at hE
     subst hE
     have b0:(([]:BL) != []) = false:=rfl
     refine zzI func83 rfl ?_
     simp only [f83]
     intro Q3 Y3
     repeat' (first
      | (replace Y3:=Y3;simp [S8,X8,ha,hm2,hf1,w2,O7,d2,hss,hsl1,d4,e1])
      | refine Y3 _ _ _ ?_
      | refine dF (id:=11) c0n [(3,8)] ?_)
     exact ⟨_,j0E a1 a2 a3 a4,rfl⟩
    ·rw [if_neg h0] at hE
     subst hE
     have b0:(hi == []) = false:=by simp [h0]
     refine zzI func83 rfl ?_
     simp only [f83]
     intro Q4 Y4
     repeat' (first
      | (replace Y4:=Y4;simp [S8,X8,ha,hm2,hf1,hf2,w2,O7,b0,d2,hss,hsl1,d4,e1])
      | refine Y4 _ _ _ ?_
      | refine dF (id:=11) c0n [(3,8)] ?_)
     exact ⟨_,j0E a1 a2 a3 a4,rfl⟩
   ·rw [if_neg hsm,List.getElem?_eq_getElem (by omega)] at hres
    subst hres
    have d3:decide (((E - I:Nat):Int) <= m) = false:=by simp;omega
    have d4:¬ ((E - I:Nat):Int) <= m:=by omega
    have d5:¬ E - I <= m:=by omega
    have hrd2:=j0R C4 ar (i:=I) (e:=I + m) (by omega) (by omega)
    have hS2:(l.take (I + m)).drop I = S.take m:=by
     rw [<- hS,List.drop_take,List.drop_take,List.take_take]
     congr 1;omega
    rw [hS2,show I + m - I = m by omega] at hrd2
    have hsee2:Sees h 2 (.slc b v (I * 2) m 2 none) (cat g9 (S.take m)):=⟨rfl,hrd2⟩
    obtain ⟨s',h',e1,a1,a2,a3,a4⟩:=i0f hsee2 (fun x hx=>by cases hx;exact ar.1) (by rw [oqo];omega) (fun x hx=>hokl x (hSm x (List.mem_of_mem_take hx)))
    rw [o0w ok (fun x hx=>hSm x (List.mem_of_mem_take hx))] at a1
    have hsl2:N4 h 2 (.slc b v (I * 2) (E - I) 2 none) none (some (.one (ii m))) none = some (.slc b v (I * 2) m 2 none):=by
     simp [N4,U8,show m <= E - I by omega]
    have hx:U7 prog 48 (.slc b v (I * 2) (E - I) 2 none) m = some (.ptr b v (I * 2 + m * 2)):=by
     simp [U7,show m < E - I by omega]
    obtain ⟨fx,ex,M,hfb,_,_,hrdM,_⟩:=ar.cells C4
    obtain ⟨q1,q2⟩:=hrdM (I + m) (by omega)
    have q3:=b0e q2 (o:=0) (n:=1) (by omega)
    have q4:sub (g9 l[I + m]) 0 1 = some [.str l[I + m].name]:=rfl
    have hSe:S[m].name = l[I + m].name:=by
     have:S[m] = l[I + m]:=by simp only [<- hS];simp
     rw [this]
    rw [q4,<- hSe,show (I + m) * 2 + 0 = I * 2 + m * 2 by omega] at q3
    have q5:I * 2 + m * 2 + 1 <= M.length:=by omega
    have hfb2:h'.f b = some ⟨v,M.length::ex,fx,M⟩:=by rw [a4.2 b ar.1];exact hfb
    have hsm2:m < E - I:=by omega
    by_cases h0:hi = []
    ·subst h0
     simp only [if_true] at hE
     subst hE
     have b0:(([]:BL) != []) = false:=rfl
     refine zzI func83 rfl ?_
     simp only [f83]
     intro Q5 Y5
     repeat' (first
      | (replace Y5:=Y5;simp [S8,X8,ha,hm2,hf1,w2,O7,d2,hss,hsl1,d4,hsl2,e1,hx,hfb,hfb2,q3,q5])
      | refine Y5 _ _ _ ?_
      | refine dF (id:=11) c0n [(3,8)] ?_)
     exact ⟨_,j0E a1 a2 a3 a4,rfl⟩
    ·rw [if_neg h0] at hE
     subst hE
     have b0:(hi == []) = false:=by simp [h0]
     refine zzI func83 rfl ?_
     simp only [f83]
     intro Q6 Y6
     repeat' (first
      | (replace Y6:=Y6;simp [S8,X8,ha,hm2,hf1,hf2,w2,O7,b0,d2,hss,hsl1,d4,hsl2,e1,hx,hfb,hfb2,q3,q5])
      | refine Y6 _ _ _ ?_
      | refine dF (id:=11) c0n [(3,8)] ?_)
     exact ⟨_,j0E a1 a2 a3 a4,rfl⟩
 obtain ⟨r,e,rfl⟩:=key
 exact e
theorem sl_none {α:Type} {o:Option (List α)} (h:ls o = []):o = none \/ o = some []:=by cases o with | none=>exact .inl rfl | some l=>right;rw [show l = [] from h]
theorem D0a {h:H} {p:Nat} {l:List Named} {q:Option Nat} (w:Bx h p 2 g9 l q) (ok:TblOk l) (n:BL) (r:Row) (hr:(ls r).length < 1000000) :
  ∃ h' q',W K 169 [.one (.ptr p 0 0),.one (.str n),.agg [sl 2 l7 r]] h = some (.ret (.one (ii (i0p l n r).2)) h')/\Bx h' p 2 g9 (i0p l n r).1 q'/\Only h h' p q q':=by
 have hlen:=ok.len
 obtain ⟨B,hB⟩:∃ B:Blk,B = ⟨0,[1],true,[sl 2 l7 r]⟩:=⟨_,rfl⟩
 have wB:=w.new B
 have hf:=i0e wB ok.srt (by omega) n
 have hn:=d0A n
 have hrr:=p0K r hr
 have hne:¬ p = h.next:=by have:=w.1;omega
 have hne2:¬ h.next = p:=by omega
 have only0:Only h (h.new B) p q q:=⟨by simp,fun b hb _ _=>p0 (by omega),.inl rfl⟩
 have hfB:(h.new B).f h.next = some ⟨0,[1],true,[sl 2 l7 r]⟩:=by rw [hB];simp
 obtain ⟨res,hres⟩:∃ res,i0p l n r = res:=⟨_,rfl⟩
 rw [hres]
 unfold i0p at hres
 cases hc:(J9 n && V5 r) with
 | false =>
  rw [if_pos hc] at hres
  subst hres
  refine ⟨h.new B,q, ?_,wB,only0⟩
  rw [hB] at hf |-
  cases h1:J9 n with
  | false =>
   rw [h1] at hn
   refine zzD func169 rfl ?_
   simp only [f169]
   intro Q1 Y1
   repeat' (first
    | (replace Y1:=Y1;simp [hn])
    | refine Y1 _ _ _ ?_
    | (first | refine dF (id:=9) l0W [(3,6)] ?_ | refine dF (id:=4) c0P [(4,8)] ?_))
  | true =>
   rw [h1] at hn hc
   simp only [Bool.true_and] at hc
   rw [hc] at hrr
   refine zzD func169 rfl ?_
   simp only [f169]
   intro Q2 Y2
   repeat' (first
    | (replace Y2:=Y2;simp [hn,hrr])
    | refine Y2 _ _ _ ?_
    | (first | refine dF (id:=9) l0W [(3,6)] ?_ | refine dF (id:=4) c0P [(4,8)] ?_))
 | true =>
  rw [if_neg (by rw [hc];simp)] at hres
  simp only [oqd] at hc
  rw [hc.1] at hn
  rw [hc.2] at hrr
  have hl4:=c0S hc.2
  have hti:=g0P l n
  have hlr:∀ (u:TypeId) (h':H),V9 (sl 2 l7 r) (some (.slice u)) h' = some (one (ii (ls r).length) h'):=fun u h'=>a0C ..
  obtain ⟨w1,s,w2,w3,w4,w5⟩:=w
  have w2B:(h.new B).f p = some ⟨0,[1],true,[s]⟩:=by rw [p0 hne];exact w2
  have w3B:Sl (h.new B) 2 g9 s l:=w3.keep (by simp) fun b hb=>p0 (by have:=w3.lt hb;omega)
  by_cases h0:ls r = []
  ·rw [if_pos h0] at hres
   have hz:((ls r).length:Int) = 0:=by rw [h0];rfl
   have hzb:(((ls r).length:Int) == 0) = true:=by rw [h0];rfl
   cases hT:tat l n with
   | false =>
    rw [hT] at hf hres
    simp only [oqF,if_false] at hres
    subst hres
    refine ⟨h.new B,q, ?_,wB,only0⟩
    rw [hB] at hf hfB |-
    refine zzD func169 rfl ?_
    simp only [f169]
    intro Q3 Y3
    repeat' (first
     | (replace Y3:=Y3;simp [hn,hrr,hf,hlr,hz])
     | refine Y3 _ _ _ ?_
     | (first | refine dF (id:=9) l0W [(3,6)] ?_ | refine dF (id:=4) c0P [(4,8)] ?_))
   | true =>
    rw [hT] at hf hres
    simp only [if_true] at hres
    subst hres
    obtain ⟨hi,_⟩:=j0M hT
    generalize hI:tix l n = I at *
    have hb:∃ b v z,s = .slc b v 0 l.length 2 none/\Arr (h.new B) g9 b v l z:=by
     rcases w3B with ⟨_,e⟩ | ⟨b,v,z,e,ar⟩
     ·rw [e] at hi;simp at hi
     ·exact ⟨b,v,z,e,ar⟩
    obtain ⟨b,v,z,rfl,ar⟩:=hb
    obtain ⟨r1,e1,hr1⟩:=t0q ar I hi (by omega)
    obtain ⟨q1,hD,rfl,rfl,⟨z',ar2⟩,nD,fD⟩:=hr1.ret
    have hbp:b ≠ p:=fun e=>w5 (by rw [<- w4,e];rfl)
    have hDp:hD.f p = some ⟨0,[1],true,[.slc b v 0 l.length 2 none]⟩:=by rw [fD p (Ne.symm hbp)];exact w2B
    have hw:IntKind.i64.wrap ((I:Int) + 1) = (I:Int) + 1:=J1 (by omega)
    refine ⟨hD.set p ⟨0,[1],true,[.slc b v 0 (l.length - 1) 2 none]⟩,q, ?_,⟨by simp [nD];omega,.slc b v 0 (l.length - 1) 2 none,by simp,.inr ⟨b,v,z',by rw [List.length_eraseIdx,if_pos hi],ar2.keep (by simp) (by rw [l0,if_neg hbp])⟩,w4,w5⟩,⟨by simp [nD],fun x hx hxp hxq=>?_,.inl rfl⟩⟩
    ·rw [hB] at hf hfB e1
     refine zzD func169 rfl ?_
     simp only [f169]
     intro Q4 Y4
     repeat' (first
      | (replace Y4:=Y4;simp [hn,hrr,hf,hlr,hne,w2,hw,e1,hDp,h0])
      | refine Y4 _ _ _ ?_
      | (first | refine dF (id:=9) l0W [(3,6)] ?_ | refine dF (id:=4) c0P [(4,8)] ?_))
    ·rw [l0,if_neg hxp,fD x (fun e=>hxq (by rw [<- w4,e];rfl)),p0 (by omega)]
  ·rw [if_neg h0] at hres
   have hz:¬ ((ls r).length:Int) = 0:=by simp [h0]
   have hzb:(((ls r).length:Int) == 0) = false:=by simp [h0]
   have hcp:=g0r r hr
   simp only [J8] at hcp
   cases hT:tat l n with
   | true =>
    rw [hT] at hf hres
    simp only [if_true] at hres
    subst hres
    obtain ⟨hi,hin⟩:=j0M hT
    generalize hI:tix l n = I at *
    have hb:∃ b v z,s = .slc b v 0 l.length 2 none/\Arr (h.new B) g9 b v l z:=by
     rcases w3B with ⟨_,e⟩ | ⟨b,v,z,e,ar⟩
     ·rw [e] at hi;simp at hi
     ·exact ⟨b,v,z,e,ar⟩
    obtain ⟨b,v,z,rfl,ar⟩:=hb
    obtain ⟨fx,ex,M,hfb,_,_,hrd,hwr⟩:=ar.cells C4
    obtain ⟨q1,q2⟩:=hrd I hi
    have hx:=U5 (P:=prog) (size:=2) (b:=b) (v:=v) (n:=l.length) (i:=I) underlying48 (by simp) (by omega) hi
    have hbp:b ≠ p:=fun e=>w5 (by rw [<- w4,e];rfl)
    have q5:I * 2 + 1 + 1 <= M.length:=by omega
    have hlay:lay M (I * 2 + 1) [sl 2 l7 (rowCopy r)] = lay M (I * 2) (g9 ⟨n,rowCopy r⟩):=by
     rw [<- hin];exact p0Y (x:=.str l[I].name) (y:=sl 2 l7 l[I].r) q2
    have hbn:¬ b = h.next:=by have:=w3.lt (b:=b) rfl;omega
    refine ⟨(h.new B).set b ⟨v,[M.length],fx,lay M (I * 2 + 1) [sl 2 l7 (rowCopy r)]⟩,q, ?_,⟨by simp;omega,.slc b v 0 l.length 2 none,by rw [l0,if_neg (Ne.symm hbp)];exact w2B,.inr ⟨b,v,z,by simp, ?_⟩,w4,w5⟩,⟨by simp,fun x hx hxp hxq=>?_,.inl rfl⟩⟩
    ·have hfb':h.f b = some ⟨v,M.length::ex,fx,M⟩:=by rw [p0 hbn] at hfb;exact hfb
     rw [hB] at hf hfB |-
     refine zzD func169 rfl ?_
     simp only [f169]
     intro Q5 Y5
     repeat' (first
      | (replace Y5:=Y5;simp [hn,hrr,hf,hlr,hzb,hne,w2,hx,hcp,hfb',hbn,q5,-lay])
      | refine Y5 _ _ _ ?_
      | (first | refine dF (id:=9) l0W [(3,6)] ?_ | refine dF (id:=4) c0P [(4,8)] ?_))
    ·rw [hlay];exact hwr _ I ⟨n,rowCopy r⟩ hi (by simp;have:=ar.1;simpa using this) (by simp)
    ·rw [l0,if_neg (fun e=>hxq (by rw [<- w4,e];rfl)),p0 (by omega)]
   | false =>
    rw [hT] at hf hres
    simp only [oqF,if_false] at hres
    have hla:∀ (u:TypeId) (h':H),V9 s (some (.slice u)) h' = some (one (ii l.length) h'):=fun u h'=>U4 h' u (w3.sees C4) (by omega) (A8 C4 l)
    by_cases h32:32 <= l.length
    ·rw [if_pos h32] at hres
     subst hres
     have d1:decide ((l.length:Int) >= 32) = true:=by simp;omega
     have d2:(32:Int) <= l.length:=by omega
     refine ⟨h.new B,q, ?_,wB,only0⟩
     rw [hB] at hf hfB |-
     refine zzD func169 rfl ?_
     simp only [f169]
     intro Q6 Y6
     repeat' (first
      | (replace Y6:=Y6;simp [hn,hrr,hf,hlr,hzb,hne,w2,hla,d2])
      | refine Y6 _ _ _ ?_
      | (first | refine dF (id:=9) l0W [(3,6)] ?_ | refine dF (id:=4) c0P [(4,8)] ?_))
    ·rw [if_neg h32] at hres
     subst hres
     have d1:decide ((l.length:Int) >= 32) = false:=by simp;omega
     have d2:¬ (32:Int) <= l.length:=by omega
     generalize hI:tix l n = I at *
     have w3C:Sl ((h.new B).new ⟨0,[2],true,g9 ⟨n,rowCopy r⟩⟩) 2 g9 s l:=w3B.keep (by simp) fun b hb=>p0 (by have:=w3.lt hb;simp;omega)
     obtain ⟨s2,hD,e2,⟨b2,v2,z2,hs2,ar2⟩,nD,fD,oD⟩:=y0t w3C I hti ⟨n,rowCopy r⟩ (bv:=h.next + 1) (by simp) (fun e=>by have:=w3.lt e;omega) (by omega)
     simp only [A6] at nD fD oD
     have hDp:hD.f p = some ⟨0,[1],true,[s]⟩:=by rw [fD p (by omega) (by rw [w4];exact w5),p0 (by simp;omega)];exact w2B
     have hs2p:z7 s2 ≠ some p:=fun e=>by
      rcases oD p e with e | e
      ·rw [w4] at e;exact w5 e
      ·omega
     refine ⟨hD.set p ⟨0,[1],true,[s2]⟩,z7 s2, ?_,⟨by simp;omega,s2,by simp,.inr ⟨b2,v2,z2,hs2,ar2.keep (by simp) (by rw [l0,if_neg (fun e=>hs2p (by rw [hs2,<- e];rfl))])⟩,rfl,hs2p⟩,⟨by simp;omega,fun x hx hxp hxq=>?_, ?_⟩⟩
     ·simp only [g9] at e2
      rw [hB] at hf hfB e2
      refine zzD func169 rfl ?_
      simp only [f169]
      intro Q7 Y7
      repeat' (first
       | (replace Y7:=Y7;simp [hn,hrr,hf,hlr,hzb,hne,w2,hla,d2,hcp,e2,hDp])
       | refine Y7 _ _ _ ?_
       | (first | refine dF (id:=9) l0W [(3,6)] ?_ | refine dF (id:=4) c0P [(4,8)] ?_))
     ·rw [l0,if_neg hxp,fD x (by omega) (by rw [w4];exact hxq),p0 (by simp;omega),p0 (by omega)]
     ·cases ho:z7 s2 with
      | none=>rw [hs2] at ho;cases ho
      | some x =>
       rcases oD x ho with e | e
       ·left;rw [<- w4];exact e.symm
       ·exact .inr ⟨x,rfl,by omega⟩
theorem x0l (h:H):W K 29 [] h = some (.ret (.one (.ptr h.next 0 0)) (h.new ⟨0,[1],true,[.nilslc]⟩)):=by
 refine zzD func29 rfl ?_
 simp only [f29]
 intro Q1 Y1
 repeat' (first
  | (replace Y1:=Y1;simp)
  | refine Y1 _ _ _ ?_)
def l0P (h h':H) (l:List Nat):Prop:=l.Nodup/\∀ x ∈ l,h.next <= x/\x < h'.next
theorem A0k {h:H} {s:AS} {l:List Named} (w:Sl h 2 g9 s l) (i:Nat) (hi:i <= l.length) :
  ∃ sA sB,N7 prog 48 s = some 2/\(∀ h',N4 h' 2 s none (some (.one (ii i))) none = some sA)/\(∀ h',N4 h' 2 s (some (.one (ii i))) none none = some sB)/\Sees h 2 sA (cat g9 (l.take i))/\Sees h 2 sB (cat g9 (l.drop i))/\(∀ b,z7 sA = some b->b < h.next)/\∀ b,z7 sB = some b->b < h.next:=by
 rcases w with ⟨rfl,rfl⟩ | ⟨b,v,z,rfl,ar⟩
 ·have:i = 0:=by simpa using hi
  subst this
  exact ⟨.nilslc,.nilslc,by simp [N7],fun h'=>by simp [N4,U8],fun h'=>by simp [N4,U8],rfl,rfl,by simp [z7],by simp [z7]⟩
 ·have h1:=j0R C4 ar (i:=0) (e:=i) (by omega) hi
  have h2:=j0R C4 ar (i:=i) (e:=l.length) hi (oqg _)
  simp only [Nat.zero_mul,Nat.sub_zero,List.drop_zero] at h1
  rw [List.take_length] at h2
  exact ⟨.slc b v 0 i 2 none,.slc b v (i * 2) (l.length - i) 2 none,by simp [N7],fun h'=>by simp [N4,U8,hi],fun h'=>by simp [N4,U8,hi],⟨rfl,h1⟩,⟨rfl,h2⟩,fun x hx=>by cases hx;exact ar.1,fun x hx=>by cases hx;exact ar.1⟩
theorem w0p {h:H} {p:Nat} {l:List Named} {q:Option Nat} (w:Bx h p 2 g9 l q) (ok:TblOk l) (n:BL) :
  ∃ h' pA pB qA qB,W K 131 [.one (.ptr p 0 0),.one (.str n)] h = some (.ret (.tup [(false,[.ptr pA 0 0]),(false,[.ptr pB 0 0])]) h')/\Kept h h'/\Bx h' pA 2 g9 (l.take (tix l n)) qA/\Bx h' pB 2 g9 (l.drop (tix l n)) qB/\l0P h h' (pA::pB::(qA.toList++qB.toList)):=by
 have hlen:=ok.len
 have hf:=i0e w ok.srt (by omega) n
 have hti:=g0P l n
 obtain ⟨w1,s,w2,w3,w4,w5⟩:=w
 generalize tix l n = I at *
 generalize tat l n = T at *
 obtain ⟨sA,sB,e0,e1,e2,seA,seB,oA,oB⟩:=A0k w3 I hti
 obtain ⟨s1,h1,c1,a1,a2,a3,a4⟩:=i0f seA oA (by rw [oqo];omega) (fun x hx=>q0x ok (List.mem_of_mem_take hx))
 rw [o0w ok (fun x hx=>List.mem_of_mem_take hx)] at a1
 have seB':Sees h1 2 sB (cat g9 (l.drop I)):=Rw.sees_keep seB fun b hb=>a4.2 b (oB b hb)
 obtain ⟨s2,h2,c2,b1,b2,b3,b4⟩:=i0f seB' (fun b hb=>oqp (oB b hb) a4.1) (by rw [List.length_drop];omega) (fun x hx=>q0x ok (List.mem_of_mem_drop hx))
 rw [o0w ok (fun x hx=>List.mem_of_mem_drop hx)] at b1
 have w21:h1.f p = some ⟨0,[1],true,[s]⟩:=by rw [a4.2 p w1];exact w2
 have w22:h2.f p = some ⟨0,[1],true,[s]⟩:=by rw [b4.2 p (by have:=a4.1;omega)];exact w21
 have n1:=a4.1
 have n2:=b4.1
 refine ⟨(h2.new ⟨0,[1],true,[s1]⟩).new ⟨0,[1],true,[s2]⟩,h2.next,h2.next + 1,z7 s1,z7 s2, ?_,⟨by simp;omega,fun b hb=>by rw [p0 (by simp;omega),p0 (by omega),b4.2 b (by omega),a4.2 b hb]⟩,⟨by simp;omega,s1,by simp,a1.keep (by simp;omega) fun b hb=>?_,rfl,fun e=>?_⟩,⟨by simp,s2,by simp,b1.keep (by simp;omega) fun b hb=>?_,rfl,fun e=>?_⟩, ?_⟩
 ·refine zzD func131 rfl ?_
  simp only [f131]
  intro Q2 Y2
  repeat' (first
   | (replace Y2:=Y2;simp [hf,w2,w21,e0,e1,e2,c1,c2])
   | refine Y2 _ _ _ ?_
   | refine dF (id:=2) [0,1,2,3,4,5,6,7,9,10,11,12,13,14,15,16,8,18,17,19] [(6,12),(6,14)] ?_)
 ·have:=a1.lt hb;rw [p0 (by simp;omega),p0 (by omega),b4.2 b this]
 ·have:=a1.lt e;omega
 ·have:=b1.lt hb;rw [p0 (by simp;omega),p0 (by omega)]
 ·have:=b1.lt e;omega
 ·have k1:∀ x,z7 s1 = some x->h.next <= x/\x < h1.next:=fun x hx=>⟨a3 x hx,a1.lt hx⟩
  have k2:∀ x,z7 s2 = some x->h1.next <= x/\x < h2.next:=fun x hx=>⟨b3 x hx,b1.lt hx⟩
  cases o1:z7 s1 with
  | none =>
   cases o2:z7 s2 with
   | none=>exact ⟨by simp,fun x hx=>by simp at hx |-;omega⟩
   | some y=>have:=k2 y o2;exact ⟨by simp;omega,fun x hx=>by simp at hx |-;omega⟩
  | some x =>
   have:=k1 x o1
   cases o2:z7 s2 with
   | none=>exact ⟨by simp;omega,fun x hx=>by simp at hx |-;omega⟩
   | some y=>have:=k2 y o2;exact ⟨by simp;omega,fun x hx=>by simp at hx |-;omega⟩
end Go.Proofs.YtiagcnfmgigllaaGreat
