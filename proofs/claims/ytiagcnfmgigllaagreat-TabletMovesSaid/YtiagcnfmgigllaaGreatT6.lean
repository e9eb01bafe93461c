/- A part of a proof over the abstract machine. No conditions. -/
import Derived.Test.YtiagcnfmgigllaaGreatT1
set_option linter.all false
namespace Go.Proofs.YtiagcnfmgigllaaGreat
open Go Go.Ab Wm NumPlain Go.Proofs.Tryz
set_option maxRecDepth 10000
set_option maxHeartbeats 4000000
theorem x0R {h:H} {b v:Nat} {l:List Named} {z:List AS} (ar:Arr h c8 b v l z) {i:Nat} (hi:i < l.length):∃ fx ex M,h.f b = some ⟨v,M.length::ex,fx,M⟩∧i * 2 + 1 ≤ M.length∧sub M (i * 2) 1 = some [.str l[i].name]:=by
 obtain ⟨fx,ex,M,g4,_,_,g5,_⟩:=ar.cells z9
 obtain ⟨g6,g7⟩:=g5 i hi
 exact ⟨fx,ex,M,g4,by omega,by have:=a0v g7 (o:=0) (n:=1) (by omega);rw [Nat.add_zero] at this;rw [this];rfl⟩
theorem q0v (h:H):W K 30 [] h = some (.ret (.one (.ptr h.next 0 0)) (h.new ⟨0,[1],true,[.nilslc]⟩)):=by
 refine A9 hp rfl rfl rfl func30 rfl (by simp [Tryz.f30]) ?_
 simp only [Tryz.f30]
 refine c7 ?_;intro Q1 hQ1
 repeat' (first
  | (replace hQ1:=hQ1;simp)
  | refine hQ1 _ _ _ ?_)
theorem v0t (x:Tld) (n:Int) (h:H):W K 162 [.agg (G9 x),.one (ii n)] h = some (.ret (.one (ii (k0E x.client n))) h):=by
 obtain ⟨c,s,b⟩:=x
 have hc:=w0o c n
 simp only [G9]
 have hown:A8 S.own 162 = false:=by kernel_rfl
 refine p7 hp (by simp [s7,c5,l0]) (c6 rfl rfl (by kernel_rfl) func162 rfl (by simp [Tryz.f162]) ?_)
 simp only [Tryz.f162]
 refine c7 ?_;intro Q2 hQ2
 repeat' (first
  | (replace hQ2:=hQ2;simp [hc,u6,u5,p9,c5,l5,hown])
  | refine hQ2 _ _ _ ?_)
theorem v0e {h:H} {s:AS} {l:List Tld} (hs:Sees h 3 s (cat G9 l)) (g:Nat) (tgt:AV) (c:Tld→Int) (hg:∀ x h,W K g [.agg (G9 x),tgt] h = some (.ret (.one (ii (c x))) h)) (k:Nat) (hk:k ≤ l.length) (h1:∀ i (hi:i < l.length),i < k ↔ c l[i] < 0) (hl:l.length < 1000000) :
  W K 161 [.one s,tgt,.one (.fn g [] [])] h = some (.ret (.tup [(false,[ii k]),(false,[.bool (match l[k]? with | some x=>c x == 0 | none=>false)])]) h):=by
 have hcl:=z7 a0S l
 have hla:∀ (u:TypeId) (h':H),O7 s (some (.slice u)) h' = some (one (ii l.length) h'):=fun u h'=>O4 h' u hs (by omega) hcl
 have hix:∀ i,i < l.length→S6 prog 143 s i = some (atS 3 s i):=fun i hi=>W5 underlying143 (by simp) hs (by omega) hcl hi
 have hrd:∀ i (hi:i < l.length),H4 h (atS 3 s i) 3 = some (G9 l[i]):=fun i hi=>by rw [Y9 hs (by omega) hcl hi,c0J a0S l hi]
 refine A9 hp rfl rfl rfl func161 rfl (by simp [Tryz.f161]) ?_
 simp only [Tryz.f161]
 refine c7 ?_;intro Q3 hQ3
 repeat' (first
  | (replace hQ3:=hQ3;simp [hla])
  | refine hQ3 _ _ _ ?_)
 refine a0L hp (fun m fr hh=>hh = h∧∃ (i u:Nat),i ≤ k∧k ≤ u∧u ≤ l.length∧m = u - i∧∃ j:Nat→AV,fr = ((.one s)::(tgt)::(.one (.fn g [] []))::j 3::j 4::j 5::j 6::j 7::(.one (ii l.length))::(.one (ii i))::(.one (ii u))::j 11::j 12::j 13::j 14::j 15::j 16::j 17::j 18::j 19::j 20::j 21::j 22::j 23::j 24::j 25::j 26::j 27::j 28::j 29::j 30::j 31::j 32::j 33::j 34::j 35::j 36::j 37::j 38::j 39::j 40::j 41::j 42::j 43::j 44::j 45::j 46::j 47::j 48::[])) ?_ l.length _ _ ⟨rfl,0,l.length,by omega,hk,by omega,by omega,s9 rfl⟩
 rintro m fr hh ⟨rfl,i,u,q1,q2,q3,rfl,j,rfl⟩
 by_cases hij:i < u
 ·have d1:decide ((i:Int) < u) = true:=by simp;omega
  have hm:(i + u) / 2 < l.length:=by omega
  have w1:IntKind.i64.wrap ((i:Int) + u) = (i:Int) + u:=wrap_i64 (by omega) (by omega)
  have w2:IntKind.u64.wrap ((i:Int) + u) = (i:Int) + u:=c0m (by omega) (by omega)
  have w3:a0b .shr .u64 ((i:Int) + u) 1 = some (.int .u64 (((i + u) / 2:Nat):Int)):=by
   simp only [a0b]
   rw [if_neg (by omega)]
   have e:(2:Int) ^ min (1:Int).toNat IntKind.u64.bits = 2:=rfl
   rw [e,Int.fdiv_eq_ediv_of_nonneg _ (by omega)]
   simp
  have w4:IntKind.i64.wrap (((i + u) / 2:Nat):Int) = (((i + u) / 2:Nat):Int):=wrap_i64 (by omega) (by omega)
  have w5:IntKind.i64.wrap ((((i + u) / 2:Nat):Int) + 1) = (((i + u) / 2:Nat):Int) + 1:=wrap_i64 (by omega) (by omega)
  have x1:=hix _ hm
  have x2:=hrd _ hm
  have x3:=h1 _ hm
  generalize hM:(i + u) / 2 = M at *
  generalize hX:l[M] = X at *
  have x4:=hg X
  by_cases hc:c X < 0
  ·have d2:decide (c X < 0) = true:=by simp [hc]
   have hMk:=x3.2 hc
   first | (refine c7 ?_;intro Q4 hQ4) | have hQ4:=oqk
   repeat' (first
    | (replace hQ4:=hQ4;simp [hij,w1,w2,w3,w4,w5,x1,x2,x4,hc,A5])
    | (refine hQ4 _ _ _ ?_;clear hQ4 Q4;first | simp only [] | simp [d1,hij,w1,w2,w3,w4,w5,x1,x2,x4,d2,hc,A5] | skip)
    | (refine C5 (by assumption) ?_;(try clear hQ4);first | simp only [] | simp [d1,hij,w1,w2,w3,w4,w5,x1,x2,x4,d2,hc,A5] | skip)
    | ((fail_if_success replace hQ4:=hQ4);(first | refine c7 ?_ | refine y5 ?_ | refine y3 ?_);intro Q4 hQ4))
   all_goals exact ⟨u - (M + 1),by omega,trivial,M + 1,u,by omega,q2,q3,rfl,s9 (by simp)⟩
  ·have d2:decide (c X < 0) = false:=by simp [hc]
   have hMk:¬ M < k:=fun h=>hc (x3.1 h)
   first | (refine c7 ?_;intro Q5 hQ5) | have hQ5:=oqk
   repeat' (first
    | (replace hQ5:=hQ5;simp [hij,w1,w2,w3,w4,x1,x2,x4,hc,A5])
    | (refine hQ5 _ _ _ ?_;clear hQ5 Q5;first | simp only [] | simp [d1,hij,w1,w2,w3,w4,w5,x1,x2,x4,d2,hc,A5] | skip)
    | (refine C5 (by assumption) ?_;(try clear hQ5);first | simp only [] | simp [d1,hij,w1,w2,w3,w4,w5,x1,x2,x4,d2,hc,A5] | skip)
    | ((fail_if_success replace hQ5:=hQ5);(first | refine c7 ?_ | refine y5 ?_ | refine y3 ?_);intro Q5 hQ5))
   all_goals exact ⟨M - i,by omega,trivial,i,M,q1,by omega,by omega,rfl,s9 (by simp)⟩
 ·have d1:decide ((i:Int) < u) = false:=by simp;omega
  have hik:i = k:=by omega
  have hjk:u = k:=by omega
  subst hjk hik
  by_cases hkl:i < l.length
  ·have d2:decide ((i:Int) < l.length) = true:=by simp;omega
   have x1:=hix _ hkl
   have x2:=hrd _ hkl
   have x5:l[i]? = some l[i]:=List.getElem?_eq_getElem hkl
   generalize hX:l[i] = X at *
   have x4:=hg X
   first | (refine c7 ?_;intro Q6 hQ6) | have hQ6:=oqk
   repeat' (first
    | (replace hQ6:=hQ6;simp [hkl,x1,x2,x4])
    | (refine hQ6 _ _ _ ?_;clear hQ6 Q6;first | simp only [] | simp [d1,hij,d2,hkl,x1,x2,x4,x5] | skip)
    | (refine C5 (by assumption) ?_;(try clear hQ6);first | simp only [] | simp [hkl] | skip)
    | ((fail_if_success replace hQ6:=hQ6);(first | refine c7 ?_ | refine y5 ?_ | refine y3 ?_);intro Q6 hQ6))
   all_goals first | rfl | rw [hX]
  ·have d2:decide ((i:Int) < l.length) = false:=by simp;omega
   have x5:l[i]? = none:=List.getElem?_eq_none (by omega)
   first | (refine c7 ?_;intro Q7 hQ7) | have hQ7:=oqk
   repeat' (first
    | (replace hQ7:=hQ7;simp [hkl])
    | (refine hQ7 _ _ _ ?_;clear hQ7 Q7;first | simp only [] | simp [d1,hij,d2,hkl,x5] | skip)
    | (refine C5 (by assumption) ?_;(try clear hQ7);first | simp only [] | simp [hkl] | skip)
    | ((fail_if_success replace hQ7:=hQ7);(first | refine c7 ?_ | refine y5 ?_ | refine y3 ?_);intro Q7 hQ7))
theorem s0g {h:H} {p:Nat} {l:List Tld} {q:Option Nat} (w:Bx h p 3 G9 l q) (hs:F9 b0y l = true) (hl:l.length < 1000000) (n:Int):W K 116 [.one (.ptr p 0 0),.one (ii n)] h = some (.ret (.tup [(false,[ii (cix l n)]),(false,[.bool (g0B l n)])]) h):=by
 obtain ⟨w1,s,w2,w3,w4,w5⟩:=w
 have hb:=v0e (h:=h) (s:=s) (l:=l) (w3.sees a0S) 162 (.one (ii n)) (fun c=>k0E c.client n) (fun x h=>v0t x n h) (cix l n) (m0N _ _) (fun i hi=>B0a hs n i hi) hl
 have he:(match l[cix l n]? with | some x=>k0E x.client n == 0 | none=>false) = g0B l n:=by
  unfold g0B;generalize l[cix l n]? = q;cases q <;> simp [x0T]
 rw [he] at hb
 generalize g0B l n = T at *
 generalize cix l n = I at *
 refine A9 hp rfl rfl rfl func116 rfl (by simp [Tryz.f116]) ?_
 simp only [Tryz.f116]
 refine c7 ?_;intro Q8 hQ8
 repeat' (first
  | (replace hQ8:=hQ8;simp [w2,hb])
  | refine hQ8 _ _ _ ?_)
theorem w0J (c s:Int) (b:Option BL) (h:H):W K 125 [.one (ii c),.one (ii s),.one (bs b)] h = some (.ret (.one (.bool (b0e c s b))) h):=by
 have hown:A8 S.own 125 = false:=by kernel_rfl
 refine p7 hp (by simp [s7,c5]) (c6 rfl rfl (by kernel_rfl) func125 rfl (by simp [Tryz.f125]) ?_)
 simp only [Tryz.f125]
 refine c7 ?_;intro Q9 hQ9
 repeat' (first
  | (replace hQ9:=hQ9;simp [b0e])
  | (refine hQ9 _ _ _ ?_;clear hQ9 Q9;first | simp only [] | simp [b0e,u6,u5,p9,c5,l5,hown])
  | (first | apply cF | apply wN | apply wS) <;> intro hcnd <;> (try simp only [hcnd]) <;> (try simp [-List.isEmpty_iff,-List.isEmpty_eq_false_iff] at hcnd))
 all_goals first | done | (simp_all [-List.isEmpty_iff,-List.isEmpty_eq_false_iff];done) | (simp_all;done) | (simp_all;omega) | (simp;omega) | (intros;omega) | (intros;simp only [oqj] at *;omega) | (intros;simp at *;omega) | skip
theorem s0s {h:H} {b v:Nat} {l:List Tld} {z:List AS} (ar:Arr h G9 b v l z) {i:Nat} (hi:i < l.length):∃ fx ex M,h.f b = some ⟨v,M.length::ex,fx,M⟩∧i * 3 + 1 + 1 ≤ M.length∧i * 3 + 2 + 1 ≤ M.length∧sub M (i * 3 + 1) 1 = some [ii l[i].seq]∧sub M (i * 3 + 2) 1 = some [bs l[i].b]∧(∀ h' x,b < h'.next→h'.f b = some ⟨v,[M.length],fx,lay M (i * 3) (G9 x)⟩→Arr h' G9 b v (l.set i x) z)∧i * 3 + 3 ≤ M.length:=by
 obtain ⟨fx,ex,M,g4,_,_,g5,g6⟩:=ar.cells a0S
 obtain ⟨q1,q2⟩:=g5 i hi
 refine ⟨fx,ex,M,g4,by omega,by omega, ?_, ?_,fun h' x hb hf=>g6 h' i x hi hb hf,q1⟩
 ·rw [a0v q2 (o:=1) (n:=1) (by omega)];rfl
 ·rw [a0v q2 (o:=2) (n:=1) (by omega)];rfl
theorem v0R {h:H} {p:Nat} {l:List Tld} {q:Option Nat} (w:Bx h p 3 G9 l q) (ok:CchOk l) (c s:Int):W K 73 [.one (.ptr p 0 0),.one (ii c),.one (ii s)] h = some (.ret (.tup [(false,[bs (b0V l c s).1]),(false,[ii (b0V l c s).2])]) h):=by
 have hlen:=ok.len
 have hf:=s0g w ok.srt (by omega) c
 have key:∃ r,W K 73 [.one (.ptr p 0 0),.one (ii c),.one (ii s)] h = some r∧r = .ret (.tup [(false,[bs (b0V l c s).1]),(false,[ii (b0V l c s).2])]) h:=by
  obtain ⟨res,hres⟩:∃ res,b0V l c s = res:=⟨_,rfl⟩
  rw [hres]
  unfold b0V at hres
  dsimp only at hres
  obtain ⟨w1,sl0,w2,w3,w4,w5⟩:=w
  have fin:∀ (o:Option BL) (n:Int),g0M true h (fun r=>r = .ret (.tup [(false,[bs o]),(false,[ii n])]) h) (.ret (.tup [(false,[bs o]),(false,[ii n])]) h):=fun o n=>⟨_,b0N (b0g h) (by simp [a0J,l0,c5]),rfl⟩
  by_cases h1:s < 1
  ·rw [if_pos (.inl h1)] at hres
   subst hres
   have d1:decide (s < 1) = true:=by simp [h1]
   have f3:=fin none 3
   rw [C4] at f3
   refine N4 hp rfl rfl rfl rfl func73 rfl (by simp [Tryz.f73]) ?_
   simp only [Tryz.f73]
   refine c7 ?_;intro Q10 hQ10
   repeat' (first
    | (replace hQ10:=hQ10;simp [hf,h1,C4])
    | refine hQ10 _ _ _ ?_)
   exact f3
  ·have d1:decide (s < 1) = false:=by simp [h1]
   cases hT:g0B l c with
   | false =>
    rw [hT] at hf hres
    rw [if_neg (by simp [h1]),if_neg (by simp)] at hres
    subst hres
    have f1:=fin none 1
    rw [C4] at f1
    refine N4 hp rfl rfl rfl rfl func73 rfl (by simp [Tryz.f73]) ?_
    simp only [Tryz.f73]
    refine c7 ?_;intro Q11 hQ11
    repeat' (first
     | (replace hQ11:=hQ11;simp [hf,h1,C4])
     | refine hQ11 _ _ _ ?_)
    exact f1
   | true =>
    rw [hT] at hf hres
    obtain ⟨hi,_⟩:=j0f hT
    generalize cix l c = I at *
    rw [List.getElem?_eq_getElem hi] at hres
    simp only [Option.getD_some,true_and] at hres
    have hb:∃ b v z,sl0 = .slc b v 0 l.length 3 none∧Arr h G9 b v l z:=by
     rcases w3 with ⟨_,e⟩ | ⟨b,v,z,e,ar⟩
     ·rw [e] at hi;simp at hi
     ·exact ⟨b,v,z,e,ar⟩
    obtain ⟨b,v,z,rfl,ar⟩:=hb
    obtain ⟨fx,ex,M,g1,g2,g3,g4,g5,_,_⟩:=s0s ar hi
    have hx:=O5 (P:=prog) (size:=3) (b:=b) (v:=v) (n:=l.length) (i:=I) underlying143 (by simp) (by omega) hi
    have hbl:(ls l[I].b).length ≤ 1048576:=by
     have:=ok.ok _ (List.getElem_mem hi)
     simp only [b0e,oqd,oqj] at this
     exact this.2.2.2.2
    have hcl:=k0W l[I].b (by omega)
    generalize l[I].seq = S at *
    generalize l[I].b = B at *
    by_cases h2:s < S
    ·rw [if_pos (.inr h2)] at hres
     subst hres
     have d2:decide (s < S) = true:=by simp [h2]
     have f3:=fin none 3
     rw [C4] at f3
     refine N4 hp rfl rfl rfl rfl func73 rfl (by simp [Tryz.f73]) ?_
     simp only [Tryz.f73]
     refine c7 ?_;intro Q12 hQ12
     repeat' (first
      | (replace hQ12:=hQ12;simp [hf,h1,w2,hx,g1,g2,g4,h2,C4])
      | refine hQ12 _ _ _ ?_)
     exact f3
    ·have d2:decide (s < S) = false:=by simp [h2]
     rw [if_neg (by rintro (h | h);exact h1 h;exact h2 h)] at hres
     by_cases h3:s = S
     ·rw [if_pos h3] at hres
      subst hres
      subst h3
      refine N4 hp rfl rfl rfl rfl func73 rfl (by simp [Tryz.f73]) ?_
      simp only [Tryz.f73]
      refine c7 ?_;intro Q13 hQ13
      repeat' (first
       | (replace hQ13:=hQ13;simp [hf,h1,w2,hx,g1,g2,g3,g4,g5,h2,hcl])
       | refine hQ13 _ _ _ ?_)
      exact fin B 2
     ·rw [if_neg h3] at hres
      subst hres
      have d3:(s == S) = false:=by simp [h3]
      have f1:=fin none 1
      rw [C4] at f1
      refine N4 hp rfl rfl rfl rfl func73 rfl (by simp [Tryz.f73]) ?_
      simp only [Tryz.f73]
      refine c7 ?_;intro Q14 hQ14
      repeat' (first
       | (replace hQ14:=hQ14;simp [hf,h1,w2,hx,g1,g2,g4,h2,d3,C4])
       | refine hQ14 _ _ _ ?_)
      exact f1
 obtain ⟨r,e,rfl⟩:=key
 exact e
theorem u0w {h:H} {s:AS} {l:List Tld} (w:Sl h 3 G9 s l) (i:Nat) (hi:i ≤ l.length) (x:Tld) {bv:Nat} (hv:h.f bv = some ⟨0,[3],true,G9 x⟩) (hne:z0 s ≠ some bv) (hl:l.length < 1000000) :
  ∃ s' h',W K 126 [.one s,.one (ii i),.one (.slc bv 0 0 1 3 none)] h = some (.ret (.one s') h')∧(∃ b v z,s' = .slc b v 0 (l.insertIdx i x).length 3 none∧Arr h' G9 b v (l.insertIdx i x) z)∧h.next ≤ h'.next∧(∀ b,b < h.next→z0 s ≠ some b→h'.f b = h.f b)∧(∀ b,z0 s' = some b→z0 s = some b ∨ h.next ≤ b):=by
 obtain ⟨s',h',e,q⟩:=i0Y (P:=prog) (t:=143) underlying143 (by simp) (by simp) Tryz.bytes202 (by omega) a0S w i hi x hv hne (by simp only [J6];omega) (by omega)
 exact ⟨s',h',by rw [j0D hp (g:=t0O ⟨3,40⟩) rfl];exact e,q⟩
theorem q0x {h:H} {p:Nat} {l:List Tld} {q:Option Nat} (w:Bx h p 3 G9 l q) (ok:CchOk l) (c s:Int) (b:Option BL) (hbl:(ls b).length < 4294967296) :
  ∃ h' q',W K 77 [.one (.ptr p 0 0),.one (ii c),.one (ii s),.one (bs b)] h = some (.ret (.one (.bool (X4 l c s b).2)) h')∧Bx h' p 3 G9 (X4 l c s b).1 q'∧Only h h' p q q':=by
 have hlen:=ok.len
 have hlk:=v0R w ok c s
 obtain ⟨B,hB⟩:∃ B:Blk,B = ⟨0,[3],true,G9 ⟨c,s,b⟩⟩:=⟨_,rfl⟩
 have hf:=s0g (w.new B) ok.srt (by omega) c
 have hr:=w0J c s b h
 have only0:Only h h p q q:=⟨by simp,fun b hb _ _=>rfl,.inl rfl⟩
 obtain ⟨res,hres⟩:∃ res,X4 l c s b = res:=⟨_,rfl⟩
 rw [hres]
 unfold X4 at hres
 by_cases h1:(b0V l c s).2 = 1
 ·rw [h1] at hlk
  cases h2:b0e c s b with
  | false =>
   rw [if_pos (.inr h2)] at hres
   subst hres
   rw [h2] at hr
   refine ⟨h,q, ?_,w,only0⟩
   refine A9 hp rfl rfl rfl func77 rfl (by simp [Tryz.f77]) ?_
   simp only [Tryz.f77]
   refine c7 ?_;intro Q1 hQ1
   repeat' (first
    | (replace hQ1:=hQ1;simp [hlk,hr])
    | refine hQ1 _ _ _ ?_
    | (first | refine dF (id:=7) [0,1,2,3,4,5,6,7] [] ?_ | refine dF (id:=8) [0,1,2,3,4,5,6,7,8,9,10,11] [] ?_)
    | (first | apply cF | apply wN | apply wS) <;> intro hcnd <;> (try simp only [hcnd]) <;> (try simp [-List.isEmpty_iff,-List.isEmpty_eq_false_iff] at hcnd))
  | true =>
   rw [if_neg (by simp [h1,h2])] at hres
   rw [h2] at hr
   have hbl2:=(a0n h2).2.2.2.2
   have hcl:=k0W b (by omega)
   have hti:=m0N l c
   obtain ⟨w1,sl0,w2,w3,w4,w5⟩:=w
   cases hT:g0B l c with
   | true =>
    rw [hT] at hf hres
    simp only [if_true] at hres
    subst hres
    obtain ⟨hi,hin⟩:=j0f hT
    generalize cix l c = I at *
    have hb:∃ b v z,sl0 = .slc b v 0 l.length 3 none∧Arr h G9 b v l z:=by
     rcases w3 with ⟨_,e⟩ | ⟨b,v,z,e,ar⟩
     ·rw [e] at hi;simp at hi
     ·exact ⟨b,v,z,e,ar⟩
    obtain ⟨bb,v,z,rfl,ar⟩:=hb
    obtain ⟨fx,ex,M,g1,_,_,_,_,g6,g7⟩:=s0s ar hi
    have hx:=O5 (P:=prog) (size:=3) (b:=bb) (v:=v) (n:=l.length) (i:=I) underlying143 (by simp) (by omega) hi
    have hbp:bb ≠ p:=fun e=>w5 (by rw [← w4,e];rfl)
    have hbn:¬ bb = h.next:=by have:=ar.1;omega
    have hpn:¬ p = h.next:=by omega
    refine ⟨(h.new B).set bb ⟨v,[M.length],fx,lay M (I * 3) (G9 ⟨c,s,b⟩)⟩,q, ?_,⟨by simp;omega,.slc bb v 0 l.length 3 none,by rw [p0,if_neg (Ne.symm hbp),u4 hpn];exact w2,.inr ⟨bb,v,z,by simp, ?_⟩,w4,w5⟩,⟨by simp,fun x hx hxp hxq=>?_,.inl rfl⟩⟩
    ·rw [hB] at hf ⊢
     simp only [G9] at hf ⊢
     refine A9 hp rfl rfl rfl func77 rfl (by simp [Tryz.f77]) ?_
     simp only [Tryz.f77]
     refine c7 ?_;intro Q2 hQ2
     repeat' (first
      | (replace hQ2:=hQ2;simp [hlk,hr,hcl,hf,w2,hx,g1,g7,hbn,hpn,-lay,N3,N5,U8])
      | refine hQ2 _ _ _ ?_
      | (first | refine dF (id:=7) [0,1,2,3,4,5,6,7] [] ?_ | refine dF (id:=8) [0,1,2,3,4,5,6,7,8,9,10,11] [] ?_)
      | (first | apply cF | apply wN | apply wS) <;> intro hcnd <;> (try simp only [hcnd]) <;> (try simp [-List.isEmpty_iff,-List.isEmpty_eq_false_iff] at hcnd))
    ·exact g6 _ ⟨c,s,b⟩ (by have:=ar.1;simp;omega) (by simp)
    ·rw [p0,if_neg (fun e=>hxq (by rw [← w4,e];rfl)),u4 (by omega)]
   | false =>
    rw [hT] at hf hres
    simp only [oqF,if_false] at hres
    subst hres
    generalize hI:cix l c = I at *
    have w3C:Sl ((h.new B).new ⟨0,[3],true,G9 ⟨c,s,b⟩⟩) 3 G9 sl0 l:=w3.keep (by simp;omega) fun b hb=>by rw [u4 (by have:=w3.lt hb;simp;omega),u4 (by have:=w3.lt hb;omega)]
    obtain ⟨s2,hD,e2,⟨b2,v2,z2,hs2,ar2⟩,nD,fD,oD⟩:=u0w w3C I hti ⟨c,s,b⟩ (bv:=h.next + 1) (by simp) (fun e=>by have:=w3.lt e;omega) (by omega)
    simp only [A1] at nD fD oD
    have hDp:hD.f p = some ⟨0,[1],true,[sl0]⟩:=by rw [fD p (by omega) (by rw [w4];exact w5),u4 (by simp;omega),u4 (by omega)];exact w2
    have hpn:¬ p = h.next:=by omega
    have hs2p:z0 s2 ≠ some p:=fun e=>by
     rcases oD p e with e | e
     ·rw [w4] at e;exact w5 e
     ·omega
    refine ⟨hD.set p ⟨0,[1],true,[s2]⟩,z0 s2, ?_,⟨by simp;omega,s2,by simp,.inr ⟨b2,v2,z2,hs2,ar2.keep (by simp) (by rw [p0,if_neg (fun e=>hs2p (by rw [hs2,← e];rfl))])⟩,rfl,hs2p⟩,⟨by simp;omega,fun x hx hxp hxq=>?_, ?_⟩⟩
    ·rw [hB] at hf e2
     simp only [G9] at hf e2
     refine A9 hp rfl rfl rfl func77 rfl (by simp [Tryz.f77]) ?_
     simp only [Tryz.f77]
     refine c7 ?_;intro Q3 hQ3
     repeat' (first
      | (replace hQ3:=hQ3;simp [hlk,hr,hcl,hf,w2,e2,hDp,hpn])
      | refine hQ3 _ _ _ ?_
      | (first | refine dF (id:=7) [0,1,2,3,4,5,6,7] [] ?_ | refine dF (id:=8) [0,1,2,3,4,5,6,7,8,9,10,11] [] ?_)
      | (first | apply cF | apply wN | apply wS) <;> intro hcnd <;> (try simp only [hcnd]) <;> (try simp [-List.isEmpty_iff,-List.isEmpty_eq_false_iff] at hcnd))
    ·rw [p0,if_neg hxp,fD x (by omega) (by rw [w4];exact hxq),u4 (by simp;omega),u4 (by omega)]
    ·cases ho:z0 s2 with
     | none=>rw [hs2] at ho;cases ho
     | some x =>
      rcases oD x ho with e | e
      ·left;rw [← w4];exact e.symm
      ·exact .inr ⟨x,rfl,by omega⟩
 ·rw [if_pos (.inl h1)] at hres
  subst hres
  have h1b:((b0V l c s).2 == 1) = false:=by simp [h1]
  refine ⟨h,q, ?_,w,only0⟩
  refine A9 hp rfl rfl rfl func77 rfl (by simp [Tryz.f77]) ?_
  simp only [Tryz.f77]
  refine c7 ?_;intro Q4 hQ4
  repeat' (first
   | (replace hQ4:=hQ4;simp [hlk,hr])
   | refine hQ4 _ _ _ ?_
   | (first | refine dF (id:=7) [0,1,2,3,4,5,6,7] [] ?_ | refine dF (id:=8) [0,1,2,3,4,5,6,7,8,9,10,11] [] ?_)
   | (first | apply cF | apply wN | apply wS) <;> intro hcnd <;> (try simp only [hcnd]) <;> (try simp [-List.isEmpty_iff,-List.isEmpty_eq_false_iff] at hcnd))
  exact absurd ‹(b0V l c s).2 = 1› h1
theorem t0o (l a:List Tld) (x:Tld):j0B l (a++[x]) = (X4 (j0B l a) x.client x.seq x.b).1:=by simp [j0B]
theorem r0c {h:H} {p:Nat} {l:List Tld} {q:Option Nat} (w:Bx h p 3 G9 l q) (ok:CchOk l):∃ h' q',W K 132 [.one (.ptr p 0 0)] h = some (.ret (.one (.ptr h.next 0 0)) h')∧Kept h h'∧Bx h' h.next 3 G9 l q'∧k0y h h' (h.next::q'.toList):=by
 have hlen:=ok.len
 have hcl:=z7 a0S l
 obtain ⟨w1,s,w2,w3,w4,w5⟩:=w
 have hs:=w3.sees a0S
 have hsl:∀ b,z0 s = some b→b < h.next:=fun b hb=>w3.lt hb
 have hla:∀ (u:TypeId) (h':H),O7 s (some (.slice u)) h' = some (one (ii l.length) h'):=fun u h'=>O4 h' u hs (by omega) hcl
 have hnew:=q0v h
 have hpn:¬ p = h.next:=by omega
 have key:∃ r,W K 132 [.one (.ptr p 0 0)] h = some r∧∃ h' q',r = .ret (.one (.ptr h.next 0 0)) h'∧Kept h h'∧Bx h' h.next 3 G9 l q'∧k0y h h' (h.next::q'.toList):=by
  obtain ⟨P,hP⟩:∃ P:CR→Prop,P = fun r=>∃ h' q',r = .ret (.one (.ptr h.next 0 0)) h'∧Kept h h'∧Bx h' h.next 3 G9 l q'∧k0y h h' (h.next::q'.toList):=⟨_,rfl⟩
  suffices hh:∃ r,W K 132 [.one (.ptr p 0 0)] h = some r∧P r by rw [hP] at hh;exact hh
  refine H6 hp rfl rfl rfl func132 rfl (by simp [Tryz.f132]) ?_
  simp only [Tryz.f132]
  refine c7 ?_;intro Q1 hQ1
  repeat' (first
   | (replace hQ1:=hQ1;simp [hla,hnew,w2,hpn])
   | refine hQ1 _ _ _ ?_)
  refine D5 hp l (fun a r fr hh=>(h.next < hh.next∧(∀ b,b < h.next→hh.f b = h.f b)∧∃ q1,Bx hh h.next 3 G9 (j0B [] a) q1∧(∀ b,q1 = some b→h.next < b)∧∃ j:Nat→AV,fr = (j 0::j 1::j 2::(.one (.ptr h.next 0 0))::j 4::j 5::j 6::j 7::j 8::j 9::(.one s)::(.one (ii l.length))::(.one (ii a.length))::j 13::j 14::j 15::j 16::j 17::j 18::j 19::j 20::j 21::j 22::j 23::j 24::j 25::[]))) ?_ ?_ _ _ ?_
  rotate_left 2
  ·exact ⟨by simp,fun b hb=>u4 (by omega),none,⟨by simp,.nilslc,by simp,.inl ⟨rfl,rfl⟩,rfl,by simp⟩,by simp,s9 (by simp)⟩
  ·rintro a x r fr hh hle ⟨i1,i2,q1,i3,i4,j,rfl⟩
   have hil:a.length < l.length:=by rw [hle];simp
   have hxe:l[a.length] = x:=by simp only [hle];simp
   have hsee:Sees hh 3 s (cat G9 l):=Rw.sees_keep hs fun b hb=>i2 b (hsl b hb)
   have hix:S6 prog 143 s a.length = some (atS 3 s a.length):=W5 underlying143 (by simp) hsee (by omega) hcl hil
   have hrd:H4 hh (atS 3 s a.length) 3 = some (G9 x):=by rw [Y9 hsee (by omega) hcl hil,c0J a0S _ hil,hxe]
   have hw:IntKind.i64.wrap ((a.length:Int) + 1) = ((a++[x]).length:Int):=by rw [J9];exact D3 (by omega)
   have hxr:=ok.ok x (by rw [hle];simp)
   have hok:CchOk (j0B [] a):=r0z ⟨rfl,by simp,by simp⟩
   obtain ⟨h2,q2,e2,b2,o2⟩:=q0x (i3.new ⟨0,[3],true,G9 x⟩) hok x.client x.seq x.b (by have:=(a0n hxr).2.2.2.2;omega)
   rw [← t0o] at b2
   have o1:=o2.next
   simp only [A1] at o1
   simp only [G9] at hrd e2
   generalize hA2:a++[x] = A2 at *
   generalize (X4 (j0B [] a) x.client x.seq x.b).2 = T at *
   first | (refine c7 ?_;intro Q2 hQ2) | have hQ2:=oqk
   repeat' (first
    | (replace hQ2:=hQ2;simp [hix,hrd,hil,e2,hw])
    | (refine hQ2 _ _ _ ?_;clear hQ2 Q2;first | simp only [] | skip)
    | (refine C5 (by assumption) ?_;(try clear hQ2);first | simp only [] | skip)
    | ((fail_if_success replace hQ2:=hQ2);(first | refine c7 ?_ | refine y5 ?_ | refine y3 ?_);intro Q2 hQ2))
   refine ⟨by omega,fun b hb=>?_,q2,b2,fun b hb=>?_,s9 (by simp)⟩
   ·rw [o2.keep b (by simp;omega) (by omega) (fun e=>by have:=i4 b e;omega),u4 (by omega)];exact i2 b hb
   ·rcases o2.own with e | ⟨y,e,hy⟩
    ·rw [e] at hb;exact i4 b hb
    ·rw [e] at hb;cases hb;simp at hy;omega
  ·rintro fr hh ⟨i1,i2,q1,i3,i4,j,rfl⟩
   first | (refine c7 ?_;intro Q3 hQ3) | have hQ3:=oqk
   repeat' (first
    | (replace hQ3:=hQ3;simp)
    | (refine hQ3 _ _ _ ?_;clear hQ3 Q3;first | simp only [] | simp | skip)
    | (refine C5 (by assumption) ?_;(try clear hQ3);first | simp only [] | simp | skip)
    | ((fail_if_success replace hQ3:=hQ3);(first | refine c7 ?_ | refine y5 ?_ | refine y3 ?_);intro Q3 hQ3))
   rw [hP]
   rw [s0M ok] at i3
   refine ⟨hh,q1,rfl,⟨by omega,i2⟩,i3, ?_⟩
   cases q1 with
   | none=>exact ⟨by simp,fun x hx=>by simp at hx;omega⟩
   | some y =>
    have:=i4 y rfl
    have h3:y < hh.next:=by obtain ⟨_,s',_,k3,k4,_⟩:=i3;exact k3.lt k4
    exact ⟨by simp;omega,fun x hx=>by simp at hx;omega⟩
 obtain ⟨r,e,h',q',rfl,k⟩:=key
 exact ⟨h',q',e,k⟩
end Go.Proofs.YtiagcnfmgigllaaGreat
namespace Wm
open Go Go.Ab
def a0p (x:Version):BL:=a0Z x.time++a0r x.v
def b0a (c:Column):BL:=D7 c.name++(u8 (ls c.l).length::(ls c.l).flatMap a0p)
def f0m (l:List Column):BL:=u8 l.length::l.flatMap b0a
def g0a (o:Row):BL:=f0m (ls (rowCopy o))
def I1 (x:Named):BL:=D7 x.name++g0a x.r
def c0q (l:List Named):BL:=L7 l.length++l.flatMap I1
def a0O (t:Tld):BL:=u8 t.client::(L7 t.seq++D7 (ls t.b))
def b0C (l:List Tld):BL:=L7 l.length++l.flatMap a0O
theorem h0j {o:Row} (h:P3 o = true):(ls o).length ≤ 4∧∀ c ∈ ls o,c.name.length ≤ 1048576∧(ls c.l).length ≤ 2∧∀ x ∈ ls c.l,x.v.kind = 1→(ls x.v.b).length ≤ 1048576:=by
 simp only [P3,oqd,oqn,oqj] at h
 refine ⟨h.2,fun c hc=>?_⟩
 have h1:=h.1.1 c hc
 simp only [a0t,oqd,oqn,oqj] at h1
 refine ⟨?_,h1.1.2.2,fun x hx hk=>?_⟩
 ·have:=h1.1.1
  simp only [I6,oqd,oqj] at this
  omega
 ·have:=h1.2.1 x hx
  simp only [a0Y,oqd] at this
  have h2:=this.2.2
  unfold Q0 at h2
  simp only [hk] at h2
  simp only [d0E] at h2
  simp at h2
  cases hb:x.v.b with
  | none=>simp
  | some l=>rw [hb] at h2;simp at h2 ⊢;omega
end Wm
