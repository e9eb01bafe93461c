/- A part of a proof over the abstract machine. No conditions. -/
import Derived.Test.YtiagcnfmgigllaaGreatT71
set_option linter.all false
namespace Go.Proofs.YtiagcnfmgigllaaGreat
open Go Go.Ab Wm NumPlain Go.Proofs.Tryz
set_option maxRecDepth 10000
set_option maxHeartbeats 4000000
@[simp] def zT9 (j:Nat->AV):Fr:=j 16::j 17::j 18::j 19::j 20::j 21::j 22::j 23::j 24::j 25::j 26::j 27::j 28::j 29::j 30::j 31::j 32::j 33::j 34::j 35::j 36::j 37::j 38::j 39::j 40::j 41::j 42::j 43::j 44::j 45::j 46::j 47::j 48::j 49::j 50::j 51::j 52::j 53::j 54::j 55::j 56::j 57::j 58::j 59::j 60::j 61::j 62::j 63::j 64::j 65::j 66::j 67::j 68::j 69::j 70::j 71::j 72::j 73::j 74::j 75::j 76::j 77::j 78::j 79::j 80::j 81::j 82::j 83::j 84::j 85::j 86::j 87::j 88::j 89::j 90::j 91::j 92::j 93::j 94::j 95::j 96::j 97::j 98::j 99::j 100::j 101::j 102::j 103::j 104::j 105::j 106::j 107::j 108::j 109::j 110::j 111::j 112::j 113::j 114::j 115::j 116::j 117::j 118::j 119::j 120::j 121::j 122::j 123::j 124::j 125::j 126::j 127::j 128::j 129::j 130::j 131::j 132::j 133::j 134::j 135::j 136::j 137::j 138::j 139::j 140::j 141::j 142::j 143::j 144::j 145::j 146::j 147::j 148::j 149::j 150::j 151::j 152::j 153::j 154::j 155::j 156::j 157::j 158::j 159::j 160::j 161::j 162::j 163::j 164::j 165::j 166::j 167::j 168::j 169::j 170::j 171::j 172::j 173::j 174::j 175::j 176::j 177::j 178::j 179::j 180::j 181::j 182::j 183::j 184::j 185::j 186::j 187::j 188::j 189::j 190::j 191::j 192::j 193::j 194::j 195::j 196::j 197::j 198::j 199::j 200::j 201::j 202::j 203::j 204::j 205::j 206::j 207::j 208::j 209::j 210::j 211::j 212::j 213::j 214::j 215::j 216::j 217::j 218::j 219::j 220::j 221::j 222::j 223::j 224::j 225::j 226::j 227::j 228::j 229::j 230::j 231::[]
theorem w0d (l m:Option (List Int)) (hlt:∀ x ∈ ls l,I64 x) (hmt:∀ x ∈ ls m,I64 x) (hll:(ls l).length < 9223372036854775808) (hml:(ls m).length < 9223372036854775808) (h:H) :
  ∃ r,W K 7 [.one (sl 1 h0t l),.one (sl 1 h0t m)] h = some r/\Rets (fun v _=>v = .one (.bool true)) r:=by
 have hw:=s0x h
 obtain ⟨h2,s,sp,p,e2,w2,ep,po,k2,l2⟩:=s0A h
 obtain ⟨kn,hkn⟩:=Classical.skolem.1 t0r
 have hkn':∀ h,W K 15 [] h = some (.ret (.one (.bool true)) (kn h)):=fun h=>(hkn h).1
 have _q:∀ (u:TypeId) (h':H),V9 (sl 1 h0t l) (some (.slice u)) h' = some (one (ii (ls l).length) h'):=fun u h'=>a0C ..
 have _i:∀ (u:TypeId) (h':H),V9 (sl 1 h0t m) (some (.slice u)) h' = some (one (ii (ls m).length) h'):=fun u h'=>a0C ..
 obtain ⟨Z1,hZ1⟩:∃ Z,sl 1 h0t l = Z:=⟨_,rfl⟩
 obtain ⟨Z2,hZ2⟩:∃ Z,sl 1 h0t m = Z:=⟨_,rfl⟩
 rw [hZ1] at _q |-
 rw [hZ2] at _i |-
 have T0:Turn h2 s none 0 0:=by
  refine ⟨⟨sp,[],[],[],p,[],1,0,w2,⟨?_,by rw [ep];exact o0i _,by simp,fun q hq=>by simp at hq;subst hq;rw [ep];simp,by rw [ep];simp⟩,by simp,by simp⟩,nofun,nofun,.inl ⟨rfl,rfl,rfl⟩⟩
  have:=s0v po
  rw [ep] at this
  simpa [a0g,ep] using this
 refine Rets.intro fun P hP=>?_
 refine zzE func7 rfl ?_
 simp only [f7]
 intro Q1 Y1
 repeat' (first
  | (replace Y1:=Y1;simp [p0l,hw,e2])
  | refine Y1 _ _ _ ?_
  | refine dF (id:=25) zl9 [(2,6)] ?_
  | (first | apply cF | apply wN | apply wS) <;> intro Ya <;> (try simp only [Ya]) <;> (try simp [-List.isEmpty_iff,-List.isEmpty_eq_false_iff] at Ya))
 refine I8 hp ((ls m).take 20) (fun a r fr hh=>(∃ s o S,Turn hh s o a.length S/\∃ j:Nat->AV,fr = ((.one Z1)::(.one Z2)::j 2::j 3::j 4::(.one (.ptr s 0 0))::(.one (.flt S))::(.one (ii a.length))::j 8::j 9::j 10::j 11::j 12::j 13::j 14::j 15::zT9 j))) ?_ ?_ _ _ ?_
 rotate_left 2
 ·exact ⟨s,none,0,T0,y0 (by simp)⟩
 ·rintro a x r fr hh hl20 ⟨s,o,S,⟨⟨sp,pre,post,l1,p,l2,last,code,w,O,hl,hc⟩,ko,kb,ks⟩,j,rfl⟩
  have _h:a.length < 20:=by
   have:=congrArg List.length hl20
   simp at this;omega
  have _a:ls m = a++x::(r++(ls m).drop 20):=by
   conv=>lhs;rw [<- List.take_append_drop 20 (ls m),hl20]
   simp
  have _r:a.length < (ls m).length:=by rw [_a];simp
  have hso:some (ls m) = m:=by rw [_a];exact (a0R _a).symm
  have _g:=N6 (P:=prog) (enc:=h0t) (s:=1) (l:=ls m) (i:=a.length) underlying57 (by simp) (by omega) _r
  rw [hso,hZ2] at _g
  have _e:=O9 (enc:=h0t) (s:=1) (fun _=>rfl) a x (r++(ls m).drop 20) (o:=0) (n:=1) (by omega)
  rw [<- _a] at _e
  simp only [Nat.add_zero,Nat.mul_one] at _e _g
  replace _e:sub (cat h0t (ls m)) a.length 1 = some [ii x]:=_e
  have _o:=l0u x 0 100 (by omega) (by omega) (by omega) (hmt x (by rw [_a];simp))
  have hwb:=c0Q (n:=x) (lo:=0) (hi:=100) (by omega)
  obtain ⟨u,hu⟩:∃ u:Nat,b0j x 0 100 = u:=⟨(b0j x 0 100).toNat,by omega⟩
  rw [hu] at _o hwb
  obtain ⟨m',e1,e2,e3,e4,e5⟩:=w0h ks (x:=u) (by omega)
  obtain ⟨F,hF⟩:∃ F,FloatKind.nearest .f64 (u:Int) = F:=⟨_,rfl⟩
  rw [hF] at e1 e2
  replace e1:Ieee.double.add S F = some m':=e1
  have hcv:∀ h':H,B6 prog 3 28 (ii u) h' = some (one (.flt F) h'):=fun h'=>by simp [B6,hF]
  have _k:Ieee.double.order m' m' = some .eq:=r0t e4
  have _p:=x0b [107] F
  obtain ⟨h1,p1,c1,w1,g1,O1,ht1,_y⟩:=x0R (w.new ⟨0,[19],true,[ii 1,ii 2,.str [107],.str [],.bool false,.bool false,.str [],ii 0,.nilslc,.flt 0,sl 6 l8 (some (g0y F)),ii 0,.str [],.str [],ii 0,.str [],ii 0,ii 0,.nilslc]⟩) O ko e2 e3 (k0V (by decide) F) (n:=(a.length:Int)) (by omega)
  have _w:=k0V (row:=[107]) (by decide) F
  obtain ⟨X,hX⟩:∃ X:List AS,[ii 1,ii 2,.str [107],.str [],.bool false,.bool false,.str [],ii 0,.nilslc,.flt 0,sl 6 l8 (some (g0y F)),ii 0,.str [],.str [],ii 0,.str [],ii 0,ii 0,.nilslc] = X:=⟨_,rfl⟩
  have _s:X.length = 19:=by rw [<- hX];rfl
  have _m:sub X 0 19 = some X:=L4 _s
  rw [hX] at c1 g1
  simp only [hX] at _p
  obtain ⟨hX1,dX⟩:∃ y,hh.new ⟨0,[19],true,X⟩ = y:=⟨_,rfl⟩
  have nX:hX1.next = hh.next + 1:=by rw [<- dX];rfl
  have fX:hX1.f hh.next = some ⟨0,[19],true,X⟩:=by rw [<- dX];simp
  have oX:hh.next ∉ fpS s sp (l1++p::l2):=fun hc=>by have:=w.fp_lt _ hc;omega
  rw [dX] at c1 g1
  have n1:=g1.next
  have f1:h1.f hh.next = some ⟨0,[19],true,X⟩:=by rw [g1.keep _ (by omega) oX,fX]
  have o1:hh.next ∉ fpS s sp (l1++p1::l2):=fun hc=>by
   rcases g1.own _ hc with h | h
   ·exact oX h
   ·omega
  have lt1:=w1.fp_lt
  have hAl:(c6 (noA 0)).length = 11:=rfl
  have hAs:sub (c6 (noA 0)) 0 11 = some (c6 (noA 0)):=rfl
  have hA0:sub (c6 (noA 0)) 0 1 = some [ii 0]:=rfl
  have hOl:(c6 (noA 27)).length = 11:=rfl
  have hO0:sub (c6 (noA 27)) 0 1 = some [ii 27]:=rfl
  have hBl:(c6 (g0T (noA 0))).length = 11:=rfl
  have hBs:sub (c6 (g0T (noA 0))) 0 11 = some (c6 (g0T (noA 0))):=rfl
  have hGl:(c6 (l0U m')).length = 11:=rfl
  have hG0:sub (c6 (l0U m')) 0 1 = some [ii 0]:=rfl
  have hsm:=x0J
  obtain ⟨ZN,CN,ZC,CC,ZV,CV,q1,q2,q3,q4,q5,q6,q7,q8,q9,q10⟩:=u0J m'
  have wA:=w1.new ⟨0,[11],true,c6 (noA 0)⟩
  obtain ⟨hA,dA⟩:∃ y,h1.new ⟨0,[11],true,c6 (noA 0)⟩ = y:=⟨_,rfl⟩
  have nA:hA.next = h1.next + 1:=by rw [<- dA];rfl
  have fA:hA.f h1.next = some ⟨0,[11],true,c6 (noA 0)⟩:=by rw [<- dA];simp
  have fAX:hA.f hh.next = some ⟨0,[19],true,X⟩:=by rw [<- dA,p0 (by omega),f1]
  rw [dA] at wA
  have wT:=wA.new ⟨0,[4],true,I4 (V2 p1.t)⟩
  obtain ⟨hT,dT⟩:∃ y,hA.new ⟨0,[4],true,I4 (V2 p1.t)⟩ = y:=⟨_,rfl⟩
  have nT:hT.next = hA.next + 1:=by rw [<- dT];rfl
  have fT:hT.f hA.next = some ⟨0,[4],true,I4 (V2 p1.t)⟩:=by rw [<- dT];simp
  have _z:hT.f h1.next = some ⟨0,[11],true,c6 (noA 0)⟩:=by rw [<- dT,p0 (by omega),fA]
  have _n:hT.f hh.next = some ⟨0,[19],true,X⟩:=by rw [<- dT,p0 (by omega),fAX]
  rw [dT] at wT
  obtain ⟨h0,d0⟩:∃ y,hA.new ⟨0,[4],true,[.str [],.str [],ii 0,ii 0]⟩ = y:=⟨_,rfl⟩
  have f0:h0.f hA.next = some ⟨0,[4],true,[.str [],.str [],ii 0,ii 0]⟩:=by rw [<- d0];simp
  have s00:h0.set hA.next ⟨0,[4],true,[.str [],.str [],ii 0,ii 0]⟩ = h0:=by rw [<- d0];simp
  have s0:h0.set hA.next ⟨0,[4],true,I4 (V2 p1.t)⟩ = hT:=by rw [<- d0,<- dT];simp
  have e6:=n0S wA
  have hfr:∀ t ∈ (l1++p1::l2).map (·.t),t.fr = false:=fun t ht=>(O1.I.ok t (oqe.2 (.inr (oqe.2 (.inl ht))))).fr
  have hlen:=O1.len
  have e7:=x0e wA (by omega)
  rw [u0F hfr,List.map_map] at e7
  obtain ⟨LT,_x⟩:∃ L,(l1++p1::l2).map (V2 ∘ fun q=>q.t) = L:=⟨_,rfl⟩
  rw [_x] at e7
  have hLne:LT ≠ []:=by rw [<- _x];simp
  rw [f0G hLne] at e7
  have hLl:LT.length = (l1++p1::l2).length:=by rw [<- _x,oqi]
  have _f:∀ (u:TypeId) (h':H),V9 (sl 4 I4 (some LT)) (some (.slice u)) h' = some (one (ii LT.length) h'):=fun u h'=>a0C ..
  have hix2:=fun (i:Nat) (hi:i < LT.length)=>N6 (P:=prog) (enc:=I4) (s:=4) (l:=LT) (i:=i) underlying25 (by simp) (by omega) hi
  obtain ⟨ZT,hZT⟩:∃ Z,sl 4 I4 (some LT) = Z:=⟨_,rfl⟩
  simp only [hZT] at e7 _f hix2
  have d1:decide ((a.length:Int) < (ls m).length) = true:=by simp;omega
  have d2:decide ((a.length:Int) < 20) = true:=by simp;omega
  have d3:(a.length:Int) < 20:=by omega
  have _l:IntKind.i64.wrap ((a.length:Int) + 1) = (a.length:Int) + 1:=J1 (by omega)
  obtain ⟨kk,y,v,CL,hk4,dt⟩:∃ (kk y v:Int) (CL:List AS),(kk = 0 \/ kk = 1 \/ kk = 2 \/ kk = 3)/\((¬ a.length < (ls l).length/\kk = 0/\True/\True/\True/\True) \/ (a.length < (ls l).length/\True/\U7 prog 57 Z1 a.length = some (.rp CL a.length)/\sub CL a.length 1 = some [ii y]/\(∀ h',W K 23 [.one (ii y),.one (ii 0),.one (ii 1048576)] h' = some (.ret (.one (ii v)) h'))/\Int.tmod v 4 = kk)):=by
   by_cases hc:a.length < (ls l).length
   ·obtain ⟨l1,y,l2,e,el⟩:∃ l1 y l2,ls l = l1++y::l2/\l1.length = a.length:=⟨(ls l).take a.length,(ls l)[a.length],(ls l).drop (a.length + 1),by rw [List.getElem_cons_drop,List.take_append_drop],by simp;omega⟩
    have _g:=N6 (P:=prog) (enc:=h0t) (s:=1) (l:=ls l) (i:=a.length) underlying57 (by simp) (by omega) hc
    have hso:some (ls l) = l:=by rw [e];exact (a0R e).symm
    rw [hso,hZ1] at _g
    have _e:=O9 (enc:=h0t) (s:=1) (fun _=>rfl) l1 y l2 (o:=0) (n:=1) (by omega)
    rw [<- e,el] at _e
    simp only [Nat.add_zero,Nat.mul_one] at _e _g
    have h0:=Int.tmod_nonneg (a:=b0j y 0 1048576) 4 (c0Q (n:=y) (lo:=0) (hi:=1048576) (by omega)).1
    have h1:=Int.tmod_lt_of_pos (b0j y 0 1048576) (b:=4) (by omega)
    exact ⟨Int.tmod (b0j y 0 1048576) 4,y,b0j y 0 1048576,cat h0t (ls l),by omega,.inr ⟨hc,trivial,_g,_e,l0u y 0 1048576 (by omega) (by omega) (by omega) (hlt y (by rw [e];simp)),rfl⟩⟩
   ·exact ⟨0,0,0,[],.inl rfl,.inl ⟨hc,rfl,trivial,trivial,trivial,trivial⟩⟩
  generalize cat h0t (ls m) = CI at *
  have ho':kOk (some m'):=fun k hk=>by cases hk;exact e3
  have hb':∀ k,some m' = some k->k < 2 ^ 64:=fun k hk=>by cases hk;exact e5
  have oA:h1.next ∉ fpS s sp (l1++p1::l2):=fun hc=>by have:=lt1 _ hc;omega
  have oT:hA.next ∉ fpS s sp (l1++p1::l2):=fun hc=>by have:=lt1 _ hc;omega
  have hoth:=c0U O1
  have _t:(I4 (V2 p1.t)).length = 4:=rfl
  have _v:sub (I4 (V2 p1.t)) 0 2 = some [.str p1.t.span.lo,.str p1.t.span.hi]:=rfl
  have _u:sub (I4 (V2 p1.t)) 3 1 = some [ii p1.t.gen]:=rfl
  obtain ⟨TC,hTC⟩:∃ C,I4 (V2 p1.t) = C:=⟨_,rfl⟩
  have hw2:IntKind.i64.wrap (last + 1) = last + 1:=wrap_i64 (by omega) (by omega)
  rcases dt with ⟨t1,t2,t3,t4,t5,t6⟩ | ⟨t1,t2,t3,t4,t5,t6⟩
  all_goals
   first | (refine s9 ?_;intro Q2 Y2) | have Y2:=oqk
   repeat' (first
    | (replace Y2:=Y2;simp [-lay,L5,L6,O6,J2,_i,_q,_r,d1,d2,d3,_g,_e,_o,hcv,_p,dX,fX,_s,_m,_l,c1,hAl,dA,b0Q,m0b,e1,b0o,t1,t3,t4,t5,t6,e6,e7,d0,f0,s00])
    | (refine Y2 _ _ _ ?_;clear Y2 Q2;first | simp only [] | skip)
    | (refine F6 (by assumption) ?_;(try clear Y2);first | simp only [] | skip)
    | ((fail_if_success replace Y2:=Y2);(first | refine s9 ?_ | refine A1 ?_ | refine A4 ?_);intro Q2 Y2)
    | refine dF (id:=25) zl9 [(2,6)] ?_
    | (first | apply cF | apply wN | apply wS) <;> intro Ya <;> (try simp only [Ya]) <;> (try simp [-List.isEmpty_iff,-List.isEmpty_eq_false_iff] at Ya))
   refine I8 hp LT (fun b q fr h4=>((b.length <= l1.length->h4 = h0)/\(l1.length < b.length->h4 = hT))/\∃ j:Nat->AV,fr = ((.one Z1)::(.one Z2)::j 2::j 3::j 4::(.one (.ptr s 0 0))::(.one (.flt m'))::(.one (ii a.length))::j 8::(.one (.ptr hh.next 0 0))::(.one (.ptr h1.next 0 0))::(.one (ii kk))::(.one (ii last))::(.one ZT)::(.one (.ptr hA.next 0 0))::(.one (ii b.length))::zT9 j)) ?_ ?_ _ _ ?_
   rotate_left 2
   ·exact ⟨⟨fun _=>rfl,fun hc=>by simp at hc⟩,y0 (by simp [t2,e1])⟩
   ·rintro b y q fr h4 hlT ⟨⟨i1,i2⟩,j',rfl⟩
    have _j:b.length < LT.length:=by rw [hlT];simp
    have _d:=hix2 b.length _j
    have r0:=O9 (enc:=I4) (s:=4) f0o b y q (o:=0) (n:=4) (by omega)
    have r1:=O9 (enc:=I4) (s:=4) f0o b y q (o:=0) (n:=2) (by omega)
    rw [<- hlT] at r0 r1
    simp only [Nat.add_zero] at r0 r1
    replace r0:sub (cat I4 LT) (b.length * 4) 4 = some (I4 y):=r0
    replace r1:sub (cat I4 LT) (b.length * 4) 2 = some [.str y.span.lo,.str y.span.hi]:=r1
    have hH:=w0U y.span.lo y.span.hi [107]
    have hl2:(b++[y]).length = b.length + 1:=by simp
    have _c:IntKind.i64.wrap ((b.length:Int) + 1) = (b.length:Int) + 1:=J1 (by omega)
    rcases x0I (A:=l1.map (V2 ∘ fun q=>q.t)) (P:=V2 p1.t) (B:=l2.map (V2 ∘ fun q=>q.t)) (by rw [<- hlT,<- _x];simp) with ⟨hb,rfl⟩ | ⟨hb,hy⟩
    ·simp only [oqi] at hb
     obtain rfl:=i1 (by omega)
     rw [show G9 ⟨(V2 p1.t).span.lo,(V2 p1.t).span.hi⟩ [107] = true from O1.has] at hH
     rw [hTC] at r0 s0 _t
     simp only [V2] at r1 hH
     generalize hLn:LT.length = LN at *
     generalize cat I4 LT = CT at *
     generalize hbl:b.length = bl at *
     first | (refine s9 ?_;intro Q3 Y3) | have Y3:=oqk
     repeat' (first
      | (replace Y3:=Y3;simp [-lay,L5,L6,O6,J2,_t,_f,_j,_d,r0,r1,hH,f0,s0,_c])
      | (refine Y3 _ _ _ ?_;clear Y3 Q3;first | simp only [] | skip)
      | (refine F6 (by assumption) ?_;(try clear Y3);first | simp only [] | skip)
      | ((fail_if_success replace Y3:=Y3);(first | refine s9 ?_ | refine A1 ?_ | refine A4 ?_);intro Q3 Y3)
      | refine dF (id:=25) zl9 [(2,6)] ?_
      | (first | apply cF | apply wN | apply wS) <;> intro Ya <;> (try simp only [Ya]) <;> (try simp [-List.isEmpty_iff,-List.isEmpty_eq_false_iff] at Ya))
     refine ⟨⟨fun hc=>?_,fun hc=>?_⟩,y0 (by simp [hbl])⟩
     ·exfalso;simp only [hl2,hbl] at hc;omega
     ·first | rfl | trivial
    ·simp only [oqi] at hb
     rw [<- List.map_append] at hy
     obtain ⟨z,hz,rfl⟩:=List.mem_map.1 hy
     have hzz:G9 ⟨((V2 ∘ fun q:Pt=>q.t) z).span.lo,((V2 ∘ fun q:Pt=>q.t) z).span.hi⟩ [107] = false:=(hoth z.t (by
      rcases oqe.1 hz with hz | hz
      ·exact oqe.2 (.inl (oqe.2 (.inr (List.mem_map.2 ⟨z,hz,rfl⟩))))
      ·exact oqe.2 (.inr (oqe.2 (.inl (List.mem_map.2 ⟨z,hz,rfl⟩)))))).1
     rw [hzz] at hH
     simp only [V2,Function.comp] at r1 hH
     clear r0
     generalize hLn:LT.length = LN at *
     generalize cat I4 LT = CT at *
     generalize hbl:b.length = bl at *
     first | (refine s9 ?_;intro Q4 Y4) | have Y4:=oqk
     repeat' (first
      | (replace Y4:=Y4;simp [_f,_j,_d,r1,hH,_c])
      | (refine Y4 _ _ _ ?_;clear Y4 Q4;first | simp only [] | skip)
      | (refine F6 (by assumption) ?_;(try clear Y4);first | simp only [] | skip)
      | ((fail_if_success replace Y4:=Y4);(first | refine s9 ?_ | refine A1 ?_ | refine A4 ?_);intro Q4 Y4)
      | refine dF (id:=25) zl9 [(2,6)] ?_
      | (first | apply cF | apply wN | apply wS) <;> intro Ya <;> (try simp only [Ya]) <;> (try simp [-List.isEmpty_iff,-List.isEmpty_eq_false_iff] at Ya))
     refine ⟨⟨fun hc=>?_,fun hc=>?_⟩,y0 (by simp [hbl])⟩
     ·simp only [hl2,hbl] at hc;exact i1 (by omega)
     ·simp only [hl2,hbl] at hc;exact i2 (by omega)
   ·rintro fr h4 ⟨⟨_,i2⟩,j',rfl⟩
    obtain rfl:=i2 (by rw [hLl];simp)
    generalize LT.length = LN at *
    rw [hTC] at fT _v _u
    rcases hk4 with k0 | k1 | k2 | k3
    all_goals first
     | (exfalso;omega)
     | (subst k0
        obtain ⟨hb,ho,hg,hb1,ho1,hg1,E1,D1,P1,E2,D2,⟨P2,P3,P4⟩,E3,D3,P5,T'⟩:=g0l wT O1 ⟨hl.1,by omega⟩ hc e3 e4 e5 ht1 _y _w _h hX _n _z (by omega) (by omega)
        have F9:=_n
        obtain ⟨_b,E0,L0,dY,cl,cs,c0,c10,F3,F4,G3,G4,N0,I0,R0⟩:True/\True/\True/\True/\True/\True/\True/\True/\True/\True/\True/\True/\True/\True/\True:=by simp)
     | (subst k1
        have _b:=F0F (a.length:Int) (show I64 _ from ⟨by omega,by omega⟩)
        obtain ⟨k,hk⟩:∃ k,j0Q (a.length:Int) = k:=⟨_,rfl⟩
        simp only [hk] at _b
        obtain ⟨h5,sp',l1',q,l2',last',code',C,E0,w5,O5,hl5,hc5,ec,g5⟩:=q0O wT O1 ⟨hl.1,by omega⟩ hc k
        simp only [g0V] at E0
        have n5:=g5.next
        obtain ⟨AC,hAC⟩:∃ A,c6 C = A:=⟨_,rfl⟩
        rw [hAC] at E0
        have F9:=(g5.keep hh.next (by omega) o1).trans _n
        obtain ⟨hb,ho,hg,hb1,ho1,hg1,E1,D1,P1,E2,D2,⟨P2,P3,P4⟩,E3,D3,P5,T'⟩:=g0l w5 O5 ⟨by omega,by omega⟩ hc5 e3 e4 e5 (by rw [ec];exact ht1) (by rw [ec];exact _y) _w _h hX F9 ((g5.keep h1.next (by omega) oA).trans _z) (by omega) (by omega)
        obtain ⟨L0,dY,cl,cs,c0,c10,F3,F4,G3,G4,N0,I0,R0⟩:True/\True/\True/\True/\True/\True/\True/\True/\True/\True/\True/\True/\True:=by simp)
     | (subst k2
        obtain ⟨TB,CF,h2',h3',h4',h5,s2,sp2,q,E0,⟨cl,cs,c0,c10⟩,N0,I0,R0,w5,O5,ec,⟨n2,n3,n4,n5⟩,⟨F3,F4⟩,kp,fq⟩:=t0P wT O1 ho' hb' ⟨by omega,by omega⟩
        simp only [g0V] at E0 R0
        simp only [y0R] at I0
        obtain ⟨hF1,dY⟩:∃ y,h2'.new ⟨0,[11],true,CF⟩ = y:=⟨_,rfl⟩
        rw [dY] at N0
        have G3:=(kp hA.next (by omega) oT).2.1.trans fT
        have G4:=(kp hA.next (by omega) oT).2.2.1.trans fT
        have F9:=(kp hh.next (by omega) o1).2.2.2.trans _n
        obtain ⟨hb,ho,hg,hb1,ho1,hg1,E1,D1,P1,E2,D2,⟨P2,P3,P4⟩,E3,D3,P5,T'⟩:=g0l w5 O5 ⟨by omega,by omega⟩ ⟨by omega,by omega⟩ e3 e4 e5 (by rw [ec];exact List.mem_map.2 ⟨_,ht1,rfl⟩) (fun y hy h=>by rw [ec] at hy;obtain ⟨z,hz,rfl⟩:=List.mem_map.1 hy;exact _y z hz h) _w _h hX F9 ((kp h1.next (by omega) oA).2.2.2.trans _z) (by omega) (by omega)
        obtain ⟨_b,L0⟩:True/\True:=by simp)
     | (subst k3
        obtain ⟨TB,h5,s2,sp2,l1',q,l2',E0,L0,w5,O5,ec,k5,f5⟩:=t0s wT O1 ho' hb' ⟨by omega,by omega⟩ hc
        have n5:=k5.1
        have F9:=(k5.2 hh.next (by omega)).trans _n
        obtain ⟨hb,ho,hg,hb1,ho1,hg1,E1,D1,P1,E2,D2,⟨P2,P3,P4⟩,E3,D3,P5,T'⟩:=g0l w5 O5 ⟨hl.1,by omega⟩ hc e3 e4 e5 (by rw [ec];exact List.mem_map.2 ⟨_,ht1,rfl⟩) (fun y hy h=>by rw [ec] at hy;obtain ⟨z,hz,rfl⟩:=List.mem_map.1 hy;exact _y z hz h) _w _h hX F9 ((k5.2 h1.next (by omega)).trans _z) (by omega) (by omega)
        obtain ⟨_b,dY,cl,cs,c0,c10,F3,F4,G3,G4,N0,I0,R0⟩:True/\True/\True/\True/\True/\True/\True/\True/\True/\True/\True/\True/\True:=by simp)
    all_goals
     first | (refine s9 ?_;intro Q5 Y5) | have Y5:=oqk
     repeat' (first
      | (replace Y5:=Y5;simp (config:={maxSteps:=1000000}) [p0l,_v,_u,fT,_b,hw2,E0,L0,dY,cl,cs,c0,c10,F3,F4,G3,G4,N0,I0,R0,-lay,L5,L6,O6,J2,_f,F9,hA0,hAs,hBl,hBs,hOl,hO0,hGl,hG0,_m,hsm,q1,q2,q3,q4,q5,q6,q7,q8,q9,q10,_l,b0o,d0W,h0y,_k,E1,D1,P1,E2,D2,P2,P3,P4,E3,D3,P5])
      | (refine Y5 _ _ _ ?_;clear Y5 Q5;first | simp only [] | skip)
      | (refine F6 (by assumption) ?_;(try clear Y5);first | simp only [] | skip)
      | ((fail_if_success replace Y5:=Y5);(first | refine s9 ?_ | refine A1 ?_ | refine A4 ?_);intro Q5 Y5)
      | refine dF (id:=25) zl9 [(2,6)] ?_
      | (first | apply cF | apply wN | apply wS) <;> intro Ya <;> (try simp only [Ya]) <;> (try simp [-List.isEmpty_iff,-List.isEmpty_eq_false_iff] at Ya))
     exact ⟨_,some m',m',by simpa using T',y0 (by simp)⟩
 ·rintro fr hh ⟨s,o,S,T,j,rfl⟩
  obtain ⟨N,hN⟩:∃ N,((ls m).take 20).length = N:=⟨_,rfl⟩
  rw [hN]
  have hN2:N = min 20 (ls m).length:=by rw [<- hN,oqo]
  have e1:(¬ N < (ls m).length/\True) \/ (N < (ls m).length/\¬ (N:Int) < 20):=by
   by_cases hc:(ls m).length <= 20
   ·left;exact ⟨by omega,trivial⟩
   ·right;omega
  rcases e1 with ⟨d1,d2⟩ | ⟨d1,d2⟩
  all_goals
   first | (refine s9 ?_;intro Q6 Y6) | have Y6:=oqk
   repeat' (first
    | (replace Y6:=Y6;simp [_i,d1,d2,hkn'])
    | (refine Y6 _ _ _ ?_;clear Y6 Q6;first | simp only [] | simp [_i,d1,d2,hkn'] | skip)
    | (refine F6 (by assumption) ?_;(try clear Y6);first | simp only [] | simp [_i,d1,d2,hkn'] | skip)
    | ((fail_if_success replace Y6:=Y6);(first | refine s9 ?_ | refine A1 ?_ | refine A4 ?_);intro Q6 Y6)
    | refine dF (id:=25) zl9 [(2,6)] ?_
    | (first | apply cF | apply wN | apply wS) <;> intro Ya <;> (try simp only [Ya]) <;> (try simp [-List.isEmpty_iff,-List.isEmpty_eq_false_iff] at Ya))
   all_goals exact hP _ _ rfl
end Go.Proofs.YtiagcnfmgigllaaGreat
