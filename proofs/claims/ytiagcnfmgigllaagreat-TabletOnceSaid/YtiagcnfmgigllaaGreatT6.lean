/- A part of a proof over the abstract machine. No conditions. -/
import Derived.Test.YtiagcnfmgigllaaGreatT1
set_option linter.all false
namespace Go.Proofs.YtiagcnfmgigllaaGreat
open Go Go.Ab Wm NumPlain Go.Proofs.Tryz
set_option maxRecDepth 10000
set_option maxHeartbeats 4000000
theorem A0p {h:H} {b v:Nat} {l:List Named} {z:List AS} (ar:Arr h g9 b v l z) {i:Nat} (hi:i < l.length):∃ fx ex M,h.f b = some ⟨v,M.length::ex,fx,M⟩/\i * 2 + 1 <= M.length/\sub M (i * 2) 1 = some [.str l[i].name]:=by
 obtain ⟨fx,ex,M,g4,_,_,g5,_⟩:=ar.cells C4
 obtain ⟨g6,g7⟩:=g5 i hi
 exact ⟨fx,ex,M,g4,by omega,by have:=b0e g7 (o:=0) (n:=1) (by omega);rw [Nat.add_zero] at this;rw [this];rfl⟩
theorem r0N (h:H):W K 30 [] h = some (.ret (.one (.ptr h.next 0 0)) (h.new ⟨0,[1],true,[.nilslc]⟩)):=by
 refine zzD func30 rfl ?_
 simp only [f30]
 intro Q1 Y1
 repeat' (first
  | (replace Y1:=Y1;simp)
  | refine Y1 _ _ _ ?_)
theorem v0l (x:Tld) (n:Int) (h:H):W K 162 [.agg (J7 x),.one (ii n)] h = some (.ret (.one (ii (j0x x.client n))) h):=by
 obtain ⟨c,s,b⟩:=x
 have hc:=v0b c n
 simp only [J7]
 refine zzP func162 rfl ?_
 simp only [f162]
 intro Yb Q2 Y2
 repeat' (first
  | (replace Y2:=Y2;simp [hc,A7,A0,z9,c7,u9,Yb])
  | refine Y2 _ _ _ ?_)
theorem w0B {h:H} {s:AS} {l:List Tld} (hs:Sees h 3 s (cat J7 l)) (g:Nat) (tgt:AV) (c:Tld->Int) (hg:∀ x h,W K g [.agg (J7 x),tgt] h = some (.ret (.one (ii (c x))) h)) (k:Nat) (hk:k <= l.length) (h1:∀ i (hi:i < l.length),i < k ↔ c l[i] < 0) (hl:l.length < 1000000) :
  W K 161 [.one s,tgt,.one (.fn g [] [])] h = some (.ret (.tup [(false,[ii k]),(false,[.bool (match l[k]? with | some x=>c x == 0 | none=>false)])]) h):=by
 have hcl:=A8 b0D l
 have hla:∀ (u:TypeId) (h':H),V9 s (some (.slice u)) h' = some (one (ii l.length) h'):=fun u h'=>U4 h' u hs (by omega) hcl
 have hix:∀ i,i < l.length->U7 prog 143 s i = some (atS 3 s i):=fun i hi=>a0b underlying143 (by simp) hs (by omega) hcl hi
 have hrd:∀ i (hi:i < l.length),K8 h (atS 3 s i) 3 = some (J7 l[i]):=fun i hi=>by rw [a0z hs (by omega) hcl hi,d0F b0D l hi]
 refine zzD func161 rfl ?_
 simp only [f161]
 intro Q3 Y3
 repeat' (first
  | (replace Y3:=Y3;simp [hla])
  | refine Y3 _ _ _ ?_)
 refine b0x hp (fun m fr hh=>hh = h/\∃ (i u:Nat),i <= k/\k <= u/\u <= l.length/\m = u - i/\∃ j:Nat->AV,fr = ((.one s)::(tgt)::(.one (.fn g [] []))::j 3::j 4::j 5::j 6::j 7::(.one (ii l.length))::(.one (ii i))::(.one (ii u))::j 11::j 12::j 13::j 14::j 15::j 16::j 17::j 18::j 19::j 20::j 21::j 22::j 23::j 24::j 25::j 26::j 27::j 28::j 29::j 30::j 31::j 32::j 33::j 34::j 35::j 36::j 37::j 38::j 39::j 40::j 41::j 42::j 43::j 44::j 45::j 46::j 47::j 48::[])) ?_ l.length _ _ ⟨rfl,0,l.length,by omega,hk,by omega,by omega,y0 rfl⟩
 rintro m fr hh ⟨rfl,i,u,q1,q2,q3,rfl,j,rfl⟩
 by_cases hij:i < u
 ·have d1:decide ((i:Int) < u) = true:=by simp;omega
  have hm:(i + u) / 2 < l.length:=by omega
  have w1:IntKind.i64.wrap ((i:Int) + u) = (i:Int) + u:=wrap_i64 (by omega) (by omega)
  have w2:IntKind.u64.wrap ((i:Int) + u) = (i:Int) + u:=c0M (by omega) (by omega)
  have w3:a0Y .shr .u64 ((i:Int) + u) 1 = some (.int .u64 (((i + u) / 2:Nat):Int)):=by
   simp only [a0Y]
   rw [if_neg (by omega)]
   have e:(2:Int) ^ min (1:Int).toNat IntKind.u64.bits = 2:=rfl
   rw [e,Int.fdiv_eq_ediv_of_nonneg _ (by omega)]
   simp
  have w4:IntKind.i64.wrap (((i + u) / 2:Nat):Int) = (((i + u) / 2:Nat):Int):=wrap_i64 (by omega) (by omega)
  have w5:IntKind.i64.wrap ((((i + u) / 2:Nat):Int) + 1) = (((i + u) / 2:Nat):Int) + 1:=wrap_i64 (by omega) (by omega)
  have x1:=hix _ hm
  have x2:=hrd _ hm
  have x3:=h1 _ hm
  generalize hM:(i + u) / 2 = M at *
  generalize hX:l[M] = X at *
  have x4:=hg X
  by_cases hc:c X < 0
  ·have d2:decide (c X < 0) = true:=by simp [hc]
   have hMk:=x3.2 hc
   first | (refine s9 ?_;intro Q4 Y4) | have Y4:=oqk
   repeat' (first
    | (replace Y4:=Y4;simp [hij,w1,w2,w3,w4,w5,x1,x2,x4,hc,B6])
    | (refine Y4 _ _ _ ?_;clear Y4 Q4;first | simp only [] | simp [d1,hij,w1,w2,w3,w4,w5,x1,x2,x4,d2,hc,B6] | skip)
    | (refine F6 (by assumption) ?_;(try clear Y4);first | simp only [] | simp [d1,hij,w1,w2,w3,w4,w5,x1,x2,x4,d2,hc,B6] | skip)
    | ((fail_if_success replace Y4:=Y4);(first | refine s9 ?_ | refine A1 ?_ | refine A4 ?_);intro Q4 Y4))
   all_goals exact ⟨u - (M + 1),by omega,trivial,M + 1,u,by omega,q2,q3,rfl,y0 (by simp)⟩
  ·have d2:decide (c X < 0) = false:=by simp [hc]
   have hMk:¬ M < k:=fun h=>hc (x3.1 h)
   first | (refine s9 ?_;intro Q5 Y5) | have Y5:=oqk
   repeat' (first
    | (replace Y5:=Y5;simp [hij,w1,w2,w3,w4,x1,x2,x4,hc,B6])
    | (refine Y5 _ _ _ ?_;clear Y5 Q5;first | simp only [] | simp [d1,hij,w1,w2,w3,w4,w5,x1,x2,x4,d2,hc,B6] | skip)
    | (refine F6 (by assumption) ?_;(try clear Y5);first | simp only [] | simp [d1,hij,w1,w2,w3,w4,w5,x1,x2,x4,d2,hc,B6] | skip)
    | ((fail_if_success replace Y5:=Y5);(first | refine s9 ?_ | refine A1 ?_ | refine A4 ?_);intro Q5 Y5))
   all_goals exact ⟨M - i,by omega,trivial,i,M,q1,by omega,by omega,rfl,y0 (by simp)⟩
 ·have d1:decide ((i:Int) < u) = false:=by simp;omega
  have hik:i = k:=by omega
  have hjk:u = k:=by omega
  subst hjk hik
  by_cases hkl:i < l.length
  ·have d2:decide ((i:Int) < l.length) = true:=by simp;omega
   have x1:=hix _ hkl
   have x2:=hrd _ hkl
   have x5:l[i]? = some l[i]:=List.getElem?_eq_getElem hkl
   generalize hX:l[i] = X at *
   have x4:=hg X
   first | (refine s9 ?_;intro Q6 Y6) | have Y6:=oqk
   repeat' (first
    | (replace Y6:=Y6;simp [hkl,x1,x2,x4])
    | (refine Y6 _ _ _ ?_;clear Y6 Q6;first | simp only [] | simp [d1,hij,d2,hkl,x1,x2,x4,x5] | skip)
    | (refine F6 (by assumption) ?_;(try clear Y6);first | simp only [] | simp [hkl] | skip)
    | ((fail_if_success replace Y6:=Y6);(first | refine s9 ?_ | refine A1 ?_ | refine A4 ?_);intro Q6 Y6))
   all_goals first | rfl | rw [hX]
  ·have d2:decide ((i:Int) < l.length) = false:=by simp;omega
   have x5:l[i]? = none:=List.getElem?_eq_none (by omega)
   first | (refine s9 ?_;intro Q7 Y7) | have Y7:=oqk
   repeat' (first
    | (replace Y7:=Y7;simp [hkl])
    | (refine Y7 _ _ _ ?_;clear Y7 Q7;first | simp only [] | simp [d1,hij,d2,hkl,x5] | skip)
    | (refine F6 (by assumption) ?_;(try clear Y7);first | simp only [] | simp [hkl] | skip)
    | ((fail_if_success replace Y7:=Y7);(first | refine s9 ?_ | refine A1 ?_ | refine A4 ?_);intro Q7 Y7))
theorem s0i {h:H} {p:Nat} {l:List Tld} {q:Option Nat} (w:Bx h p 3 J7 l q) (hs:J5 b0L l = true) (hl:l.length < 1000000) (n:Int):W K 116 [.one (.ptr p 0 0),.one (ii n)] h = some (.ret (.tup [(false,[ii (cix l n)]),(false,[.bool (f0S l n)])]) h):=by
 obtain ⟨w1,s,w2,w3,w4,w5⟩:=w
 have hb:=w0B (h:=h) (s:=s) (l:=l) (w3.sees b0D) 162 (.one (ii n)) (fun c=>j0x c.client n) (fun x h=>v0l x n h) (cix l n) (l0F _ _) (fun i hi=>v0h hs n i hi) hl
 have he:(match l[cix l n]? with | some x=>j0x x.client n == 0 | none=>false) = f0S l n:=by
  unfold f0S;generalize l[cix l n]? = q;cases q <;> simp [y0Y]
 rw [he] at hb
 generalize f0S l n = T at *
 generalize cix l n = I at *
 refine zzD func116 rfl ?_
 simp only [f116]
 intro Q8 Y8
 repeat' (first
  | (replace Y8:=Y8;simp [w2,hb])
  | refine Y8 _ _ _ ?_)
theorem v0I (c s:Int) (b:Option BL) (h:H):W K 125 [.one (ii c),.one (ii s),.one (bs b)] h = some (.ret (.one (.bool (a0U c s b))) h):=by
 refine zzP func125 rfl ?_
 simp only [f125]
 intro Yb Q9 Y9
 repeat' (first
  | (replace Y9:=Y9;simp [a0U])
  | (refine Y9 _ _ _ ?_;clear Y9 Q9;first | simp only [] | simp [a0U,A7,A0,z9,c7,u9,Yb])
  | (first | apply cF | apply wN | apply wS) <;> intro Ya <;> (try simp only [Ya]) <;> (try simp [-List.isEmpty_iff,-List.isEmpty_eq_false_iff] at Ya))
 all_goals first | done | (simp_all [-List.isEmpty_iff,-List.isEmpty_eq_false_iff];done) | (simp_all;first | done | omega) | (simp;omega) | (intros;first | omega | (simp only [oqj] at *;omega) | (simp at *;omega))
theorem s0q {h:H} {b v:Nat} {l:List Tld} {z:List AS} (ar:Arr h J7 b v l z) {i:Nat} (hi:i < l.length):∃ fx ex M,h.f b = some ⟨v,M.length::ex,fx,M⟩/\i * 3 + 1 + 1 <= M.length/\i * 3 + 2 + 1 <= M.length/\sub M (i * 3 + 1) 1 = some [ii l[i].seq]/\sub M (i * 3 + 2) 1 = some [bs l[i].b]/\(∀ h' x,b < h'.next->h'.f b = some ⟨v,[M.length],fx,lay M (i * 3) (J7 x)⟩->Arr h' J7 b v (l.set i x) z)/\i * 3 + 3 <= M.length:=by
 obtain ⟨fx,ex,M,g4,_,_,g5,g6⟩:=ar.cells b0D
 obtain ⟨q1,q2⟩:=g5 i hi
 refine ⟨fx,ex,M,g4,by omega,by omega, ?_, ?_,fun h' x hb hf=>g6 h' i x hi hb hf,q1⟩
 ·rw [b0e q2 (o:=1) (n:=1) (by omega)];rfl
 ·rw [b0e q2 (o:=2) (n:=1) (by omega)];rfl
theorem o0j {h:H} {p:Nat} {l:List Tld} {q:Option Nat} (w:Bx h p 3 J7 l q) (ok:CchOk l) (c s:Int):W K 73 [.one (.ptr p 0 0),.one (ii c),.one (ii s)] h = some (.ret (.tup [(false,[bs (a0D l c s).1]),(false,[ii (a0D l c s).2])]) h):=by
 have hlen:=ok.len
 have hf:=s0i w ok.srt (by omega) c
 have key:∃ r,W K 73 [.one (.ptr p 0 0),.one (ii c),.one (ii s)] h = some r/\r = .ret (.tup [(false,[bs (a0D l c s).1]),(false,[ii (a0D l c s).2])]) h:=by
  obtain ⟨res,hres⟩:∃ res,a0D l c s = res:=⟨_,rfl⟩
  rw [hres]
  unfold a0D at hres
  dsimp only at hres
  obtain ⟨w1,sl0,w2,w3,w4,w5⟩:=w
  have fin:∀ (o:Option BL) (n:Int),g0E true h (fun r=>r = .ret (.tup [(false,[bs o]),(false,[ii n])]) h) (.ret (.tup [(false,[bs o]),(false,[ii n])]) h):=fun o n=>⟨_,c0B (b0X h) (by simp [b0u,v9,c7]),rfl⟩
  by_cases h1:s < 1
  ·rw [if_pos (.inl h1)] at hres
   subst hres
   have d1:decide (s < 1) = true:=by simp [h1]
   have f3:=fin none 3
   rw [C9] at f3
   refine zzI func73 rfl ?_
   simp only [f73]
   intro Q10 Y10
   repeat' (first
    | (replace Y10:=Y10;simp [hf,h1,C9])
    | refine Y10 _ _ _ ?_)
   exact f3
  ·have d1:decide (s < 1) = false:=by simp [h1]
   cases hT:f0S l c with
   | false =>
    rw [hT] at hf hres
    rw [if_neg (by simp [h1]),if_neg (by simp)] at hres
    subst hres
    have f1:=fin none 1
    rw [C9] at f1
    refine zzI func73 rfl ?_
    simp only [f73]
    intro Q11 Y11
    repeat' (first
     | (replace Y11:=Y11;simp [hf,h1,C9])
     | refine Y11 _ _ _ ?_)
    exact f1
   | true =>
    rw [hT] at hf hres
    obtain ⟨hi,_⟩:=h0z hT
    generalize cix l c = I at *
    rw [List.getElem?_eq_getElem hi] at hres
    simp only [Option.getD_some,true_and] at hres
    have hb:∃ b v z,sl0 = .slc b v 0 l.length 3 none/\Arr h J7 b v l z:=by
     rcases w3 with ⟨_,e⟩ | ⟨b,v,z,e,ar⟩
     ·rw [e] at hi;simp at hi
     ·exact ⟨b,v,z,e,ar⟩
    obtain ⟨b,v,z,rfl,ar⟩:=hb
    obtain ⟨fx,ex,M,g1,g2,g3,g4,g5,_,_⟩:=s0q ar hi
    have hx:=U5 (P:=prog) (size:=3) (b:=b) (v:=v) (n:=l.length) (i:=I) underlying143 (by simp) (by omega) hi
    have hbl:(ls l[I].b).length <= 1048576:=by
     have:=ok.ok _ (List.getElem_mem hi)
     simp only [a0U,oqd,oqj] at this
     exact this.2.2.2.2
    have hcl:=k0f l[I].b (by omega)
    generalize l[I].seq = S at *
    generalize l[I].b = B at *
    by_cases h2:s < S
    ·rw [if_pos (.inr h2)] at hres
     subst hres
     have d2:decide (s < S) = true:=by simp [h2]
     have f3:=fin none 3
     rw [C9] at f3
     refine zzI func73 rfl ?_
     simp only [f73]
     intro Q12 Y12
     repeat' (first
      | (replace Y12:=Y12;simp [hf,h1,w2,hx,g1,g2,g4,h2,C9])
      | refine Y12 _ _ _ ?_)
     exact f3
    ·have d2:decide (s < S) = false:=by simp [h2]
     rw [if_neg (by rintro (h | h);exact h1 h;exact h2 h)] at hres
     by_cases h3:s = S
     ·rw [if_pos h3] at hres
      subst hres
      subst h3
      refine zzI func73 rfl ?_
      simp only [f73]
      intro Q13 Y13
      repeat' (first
       | (replace Y13:=Y13;simp [hf,h1,w2,hx,g1,g2,g3,g4,g5,h2,hcl])
       | refine Y13 _ _ _ ?_)
      exact fin B 2
     ·rw [if_neg h3] at hres
      subst hres
      have d3:(s == S) = false:=by simp [h3]
      have f1:=fin none 1
      rw [C9] at f1
      refine zzI func73 rfl ?_
      simp only [f73]
      intro Q14 Y14
      repeat' (first
       | (replace Y14:=Y14;simp [hf,h1,w2,hx,g1,g2,g4,h2,d3,C9])
       | refine Y14 _ _ _ ?_)
      exact f1
 obtain ⟨r,e,rfl⟩:=key
 exact e
theorem v0o {h:H} {s:AS} {l:List Tld} (w:Sl h 3 J7 s l) (i:Nat) (hi:i <= l.length) (x:Tld) {bv:Nat} (hv:h.f bv = some ⟨0,[3],true,J7 x⟩) (hne:z7 s ≠ some bv) (hl:l.length < 1000000) :
  ∃ s' h',W K 126 [.one s,.one (ii i),.one (.slc bv 0 0 1 3 none)] h = some (.ret (.one s') h')/\(∃ b v z,s' = .slc b v 0 (l.insertIdx i x).length 3 none/\Arr h' J7 b v (l.insertIdx i x) z)/\h.next <= h'.next/\(∀ b,b < h.next->z7 s ≠ some b->h'.f b = h.f b)/\(∀ b,z7 s' = some b->z7 s = some b \/ h.next <= b):=by
 obtain ⟨s',h',e,q⟩:=j0J (P:=prog) (t:=143) underlying143 (by simp) (by simp) Tryz.bytes202 (by omega) b0D w i hi x hv hne (by simp only [N3];omega) (by omega)
 exact ⟨s',h',by rw [l0h hp (g:=u0A ⟨3,40⟩) rfl];exact e,q⟩
theorem r0P {h:H} {p:Nat} {l:List Tld} {q:Option Nat} (w:Bx h p 3 J7 l q) (ok:CchOk l) (c s:Int) (b:Option BL) (hbl:(ls b).length < 4294967296) :
  ∃ h' q',W K 77 [.one (.ptr p 0 0),.one (ii c),.one (ii s),.one (bs b)] h = some (.ret (.one (.bool (a0v l c s b).2)) h')/\Bx h' p 3 J7 (a0v l c s b).1 q'/\Only h h' p q q':=by
 have hlen:=ok.len
 have hlk:=o0j w ok c s
 obtain ⟨B,hB⟩:∃ B:Blk,B = ⟨0,[3],true,J7 ⟨c,s,b⟩⟩:=⟨_,rfl⟩
 have hf:=s0i (w.new B) ok.srt (by omega) c
 have hr:=v0I c s b h
 have only0:Only h h p q q:=⟨by simp,fun b hb _ _=>rfl,.inl rfl⟩
 obtain ⟨res,hres⟩:∃ res,a0v l c s b = res:=⟨_,rfl⟩
 rw [hres]
 unfold a0v at hres
 by_cases h1:(a0D l c s).2 = 1
 ·rw [h1] at hlk
  cases h2:a0U c s b with
  | false =>
   rw [if_pos (.inr h2)] at hres
   subst hres
   rw [h2] at hr
   refine ⟨h,q, ?_,w,only0⟩
   refine zzD func77 rfl ?_
   simp only [f77]
   intro Q1 Y1
   repeat' (first
    | (replace Y1:=Y1;simp [hlk,hr])
    | refine Y1 _ _ _ ?_
    | (first | refine dF (id:=7) zl8 [] ?_ | refine dF (id:=8) h0R [] ?_)
    | (first | apply cF | apply wN | apply wS) <;> intro Ya <;> (try simp only [Ya]) <;> (try simp [-List.isEmpty_iff,-List.isEmpty_eq_false_iff] at Ya))
  | true =>
   rw [if_neg (by simp [h1,h2])] at hres
   rw [h2] at hr
   have hbl2:=(a0B h2).2.2.2.2
   have hcl:=k0f b (by omega)
   have hti:=l0F l c
   obtain ⟨w1,sl0,w2,w3,w4,w5⟩:=w
   cases hT:f0S l c with
   | true =>
    rw [hT] at hf hres
    simp only [if_true] at hres
    subst hres
    obtain ⟨hi,hin⟩:=h0z hT
    generalize cix l c = I at *
    have hb:∃ b v z,sl0 = .slc b v 0 l.length 3 none/\Arr h J7 b v l z:=by
     rcases w3 with ⟨_,e⟩ | ⟨b,v,z,e,ar⟩
     ·rw [e] at hi;simp at hi
     ·exact ⟨b,v,z,e,ar⟩
    obtain ⟨bb,v,z,rfl,ar⟩:=hb
    obtain ⟨fx,ex,M,g1,_,_,_,_,g6,g7⟩:=s0q ar hi
    have hx:=U5 (P:=prog) (size:=3) (b:=bb) (v:=v) (n:=l.length) (i:=I) underlying143 (by simp) (by omega) hi
    have hbp:bb ≠ p:=fun e=>w5 (by rw [<- w4,e];rfl)
    have hbn:¬ bb = h.next:=by have:=ar.1;omega
    have hpn:¬ p = h.next:=by omega
    refine ⟨(h.new B).set bb ⟨v,[M.length],fx,lay M (I * 3) (J7 ⟨c,s,b⟩)⟩,q, ?_,⟨by simp;omega,.slc bb v 0 l.length 3 none,by rw [l0,if_neg (Ne.symm hbp),p0 hpn];exact w2,.inr ⟨bb,v,z,by simp, ?_⟩,w4,w5⟩,⟨by simp,fun x hx hxp hxq=>?_,.inl rfl⟩⟩
    ·rw [hB] at hf |-
     simp only [J7] at hf |-
     refine zzD func77 rfl ?_
     simp only [f77]
     intro Q2 Y2
     repeat' (first
      | (replace Y2:=Y2;simp [hlk,hr,hcl,hf,w2,hx,g1,g7,hbn,hpn,-lay,L5,L6,O6])
      | refine Y2 _ _ _ ?_
      | (first | refine dF (id:=7) zl8 [] ?_ | refine dF (id:=8) h0R [] ?_)
      | (first | apply cF | apply wN | apply wS) <;> intro Ya <;> (try simp only [Ya]) <;> (try simp [-List.isEmpty_iff,-List.isEmpty_eq_false_iff] at Ya))
    ·exact g6 _ ⟨c,s,b⟩ (by have:=ar.1;simp;omega) (by simp)
    ·rw [l0,if_neg (fun e=>hxq (by rw [<- w4,e];rfl)),p0 (by omega)]
   | false =>
    rw [hT] at hf hres
    simp only [oqF,if_false] at hres
    subst hres
    generalize hI:cix l c = I at *
    have w3C:Sl ((h.new B).new ⟨0,[3],true,J7 ⟨c,s,b⟩⟩) 3 J7 sl0 l:=w3.keep (by simp;omega) fun b hb=>by rw [p0 (by have:=w3.lt hb;simp;omega),p0 (by have:=w3.lt hb;omega)]
    obtain ⟨s2,hD,e2,⟨b2,v2,z2,hs2,ar2⟩,nD,fD,oD⟩:=v0o w3C I hti ⟨c,s,b⟩ (bv:=h.next + 1) (by simp) (fun e=>by have:=w3.lt e;omega) (by omega)
    simp only [A6] at nD fD oD
    have hDp:hD.f p = some ⟨0,[1],true,[sl0]⟩:=by rw [fD p (by omega) (by rw [w4];exact w5),p0 (by simp;omega),p0 (by omega)];exact w2
    have hpn:¬ p = h.next:=by omega
    have hs2p:z7 s2 ≠ some p:=fun e=>by
     rcases oD p e with e | e
     ·rw [w4] at e;exact w5 e
     ·omega
    refine ⟨hD.set p ⟨0,[1],true,[s2]⟩,z7 s2, ?_,⟨by simp;omega,s2,by simp,.inr ⟨b2,v2,z2,hs2,ar2.keep (by simp) (by rw [l0,if_neg (fun e=>hs2p (by rw [hs2,<- e];rfl))])⟩,rfl,hs2p⟩,⟨by simp;omega,fun x hx hxp hxq=>?_, ?_⟩⟩
    ·rw [hB] at hf e2
     simp only [J7] at hf e2
     refine zzD func77 rfl ?_
     simp only [f77]
     intro Q3 Y3
     repeat' (first
      | (replace Y3:=Y3;simp [hlk,hr,hcl,hf,w2,e2,hDp,hpn])
      | refine Y3 _ _ _ ?_
      | (first | refine dF (id:=7) zl8 [] ?_ | refine dF (id:=8) h0R [] ?_)
      | (first | apply cF | apply wN | apply wS) <;> intro Ya <;> (try simp only [Ya]) <;> (try simp [-List.isEmpty_iff,-List.isEmpty_eq_false_iff] at Ya))
    ·rw [l0,if_neg hxp,fD x (by omega) (by rw [w4];exact hxq),p0 (by simp;omega),p0 (by omega)]
    ·cases ho:z7 s2 with
     | none=>rw [hs2] at ho;cases ho
     | some x =>
      rcases oD x ho with e | e
      ·left;rw [<- w4];exact e.symm
      ·exact .inr ⟨x,rfl,by omega⟩
 ·rw [if_pos (.inl h1)] at hres
  subst hres
  have h1b:((a0D l c s).2 == 1) = false:=by simp [h1]
  refine ⟨h,q, ?_,w,only0⟩
  refine zzD func77 rfl ?_
  simp only [f77]
  intro Q4 Y4
  repeat' (first
   | (replace Y4:=Y4;simp [hlk,hr])
   | refine Y4 _ _ _ ?_
   | (first | refine dF (id:=7) zl8 [] ?_ | refine dF (id:=8) h0R [] ?_)
   | (first | apply cF | apply wN | apply wS) <;> intro Ya <;> (try simp only [Ya]) <;> (try simp [-List.isEmpty_iff,-List.isEmpty_eq_false_iff] at Ya))
  exact absurd ‹(a0D l c s).2 = 1› h1
theorem u0K (l a:List Tld) (x:Tld):l0z l (a++[x]) = (a0v (l0z l a) x.client x.seq x.b).1:=by simp [l0z]
theorem s0R {h:H} {p:Nat} {l:List Tld} {q:Option Nat} (w:Bx h p 3 J7 l q) (ok:CchOk l):∃ h' q',W K 132 [.one (.ptr p 0 0)] h = some (.ret (.one (.ptr h.next 0 0)) h')/\Kept h h'/\Bx h' h.next 3 J7 l q'/\l0P h h' (h.next::q'.toList):=by
 have hlen:=ok.len
 have hcl:=A8 b0D l
 obtain ⟨w1,s,w2,w3,w4,w5⟩:=w
 have hs:=w3.sees b0D
 have hsl:∀ b,z7 s = some b->b < h.next:=fun b hb=>w3.lt hb
 have hla:∀ (u:TypeId) (h':H),V9 s (some (.slice u)) h' = some (one (ii l.length) h'):=fun u h'=>U4 h' u hs (by omega) hcl
 have hnew:=r0N h
 have hpn:¬ p = h.next:=by omega
 have key:∃ r,W K 132 [.one (.ptr p 0 0)] h = some r/\∃ h' q',r = .ret (.one (.ptr h.next 0 0)) h'/\Kept h h'/\Bx h' h.next 3 J7 l q'/\l0P h h' (h.next::q'.toList):=by
  obtain ⟨P,hP⟩:∃ P:CR->Prop,P = fun r=>∃ h' q',r = .ret (.one (.ptr h.next 0 0)) h'/\Kept h h'/\Bx h' h.next 3 J7 l q'/\l0P h h' (h.next::q'.toList):=⟨_,rfl⟩
  suffices hh:∃ r,W K 132 [.one (.ptr p 0 0)] h = some r/\P r by rw [hP] at hh;exact hh
  refine zzE func132 rfl ?_
  simp only [f132]
  intro Q1 Y1
  repeat' (first
   | (replace Y1:=Y1;simp [hla,hnew,w2,hpn])
   | refine Y1 _ _ _ ?_)
  refine I8 hp l (fun a r fr hh=>(h.next < hh.next/\(∀ b,b < h.next->hh.f b = h.f b)/\∃ q1,Bx hh h.next 3 J7 (l0z [] a) q1/\(∀ b,q1 = some b->h.next < b)/\∃ j:Nat->AV,fr = (j 0::j 1::j 2::(.one (.ptr h.next 0 0))::j 4::j 5::j 6::j 7::j 8::j 9::(.one s)::(.one (ii l.length))::(.one (ii a.length))::j 13::j 14::j 15::j 16::j 17::j 18::j 19::j 20::j 21::j 22::j 23::j 24::j 25::[]))) ?_ ?_ _ _ ?_
  rotate_left 2
  ·exact ⟨by simp,fun b hb=>p0 (by omega),none,⟨by simp,.nilslc,by simp,.inl ⟨rfl,rfl⟩,rfl,by simp⟩,by simp,y0 (by simp)⟩
  ·rintro a x r fr hh hle ⟨i1,i2,q1,i3,i4,j,rfl⟩
   have hil:a.length < l.length:=by rw [hle];simp
   have hxe:l[a.length] = x:=by simp only [hle];simp
   have hsee:Sees hh 3 s (cat J7 l):=Rw.sees_keep hs fun b hb=>i2 b (hsl b hb)
   have hix:U7 prog 143 s a.length = some (atS 3 s a.length):=a0b underlying143 (by simp) hsee (by omega) hcl hil
   have hrd:K8 hh (atS 3 s a.length) 3 = some (J7 x):=by rw [a0z hsee (by omega) hcl hil,d0F b0D _ hil,hxe]
   have hw:IntKind.i64.wrap ((a.length:Int) + 1) = ((a++[x]).length:Int):=by rw [S4];exact J1 (by omega)
   have hxr:=ok.ok x (by rw [hle];simp)
   have hok:CchOk (l0z [] a):=s0O ⟨rfl,by simp,by simp⟩
   obtain ⟨h2,q2,e2,b2,o2⟩:=r0P (i3.new ⟨0,[3],true,J7 x⟩) hok x.client x.seq x.b (by have:=(a0B hxr).2.2.2.2;omega)
   rw [<- u0K] at b2
   have o1:=o2.next
   simp only [A6] at o1
   simp only [J7] at hrd e2
   generalize hA2:a++[x] = A2 at *
   generalize (a0v (l0z [] a) x.client x.seq x.b).2 = T at *
   first | (refine s9 ?_;intro Q2 Y2) | have Y2:=oqk
   repeat' (first
    | (replace Y2:=Y2;simp [hix,hrd,hil,e2,hw])
    | (refine Y2 _ _ _ ?_;clear Y2 Q2;first | simp only [] | skip)
    | (refine F6 (by assumption) ?_;(try clear Y2);first | simp only [] | skip)
    | ((fail_if_success replace Y2:=Y2);(first | refine s9 ?_ | refine A1 ?_ | refine A4 ?_);intro Q2 Y2))
   refine ⟨by omega,fun b hb=>?_,q2,b2,fun b hb=>?_,y0 (by simp)⟩
   ·rw [o2.keep b (by simp;omega) (by omega) (fun e=>by have:=i4 b e;omega),p0 (by omega)];exact i2 b hb
   ·rcases o2.own with e | ⟨y,e,hy⟩
    ·rw [e] at hb;exact i4 b hb
    ·rw [e] at hb;cases hb;simp at hy;omega
  ·rintro fr hh ⟨i1,i2,q1,i3,i4,j,rfl⟩
   first | (refine s9 ?_;intro Q3 Y3) | have Y3:=oqk
   repeat' (first
    | (replace Y3:=Y3;simp)
    | (refine Y3 _ _ _ ?_;clear Y3 Q3;first | simp only [] | simp | skip)
    | (refine F6 (by assumption) ?_;(try clear Y3);first | simp only [] | simp | skip)
    | ((fail_if_success replace Y3:=Y3);(first | refine s9 ?_ | refine A1 ?_ | refine A4 ?_);intro Q3 Y3))
   rw [hP]
   rw [u0i ok] at i3
   refine ⟨hh,q1,rfl,⟨by omega,i2⟩,i3, ?_⟩
   cases q1 with
   | none=>exact ⟨by simp,fun x hx=>by simp at hx;omega⟩
   | some y =>
    have:=i4 y rfl
    have h3:y < hh.next:=by obtain ⟨_,s',_,k3,k4,_⟩:=i3;exact k3.lt k4
    exact ⟨by simp;omega,fun x hx=>by simp at hx;omega⟩
 obtain ⟨r,e,h',q',rfl,k⟩:=key
 exact ⟨h',q',e,k⟩
end Go.Proofs.YtiagcnfmgigllaaGreat
namespace Wm
open Go Go.Ab
def a0T (x:Version):BL:=b0K x.time++a0W x.v
def b0N (c:Column):BL:=I1 c.name++(u8 (ls c.l).length::(ls c.l).flatMap a0T)
def f0U (l:List Column):BL:=u8 l.length::l.flatMap b0N
def g0K (o:Row):BL:=f0U (ls (rowCopy o))
def K9 (x:Named):BL:=I1 x.name++g0K x.r
def c0i (l:List Named):BL:=N8 l.length++l.flatMap K9
def b0q (t:Tld):BL:=u8 t.client::(N8 t.seq++I1 (ls t.b))
def b0M (l:List Tld):BL:=N8 l.length++l.flatMap b0q
theorem q0h {o:Row} (h:V5 o = true):(ls o).length <= 4/\∀ c ∈ ls o,c.name.length <= 1048576/\(ls c.l).length <= 2/\∀ x ∈ ls c.l,x.v.kind = 1->(ls x.v.b).length <= 1048576:=by
 simp only [V5,oqd,oqn,oqj] at h
 refine ⟨h.2,fun c hc=>?_⟩
 have h1:=h.1.1 c hc
 simp only [a0H,oqd,oqn,oqj] at h1
 refine ⟨?_,h1.1.2.2,fun x hx hk=>?_⟩
 ·have:=h1.1.1
  simp only [J9,oqd,oqj] at this
  omega
 ·have:=h1.2.1 x hx
  simp only [b0B,oqd] at this
  have h2:=this.2.2
  unfold V7 at h2
  simp only [hk] at h2
  simp only [f0w] at h2
  simp at h2
  cases hb:x.v.b with
  | none=>simp
  | some l=>rw [hb] at h2;simp at h2 |-;omega
end Wm
